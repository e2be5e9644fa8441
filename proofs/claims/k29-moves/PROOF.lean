import PyProof.Rows.All
import Wide.All
import OpenK.AllK
import Wide.FinOn
import HandS.ForMost
import HandS.ForExc
import HandS.Flow
import HandS.Wide
import HandS.WideMore
import HandS.WideBits
import HandS.Defaults
import HandS.IsInst
import HandS.TryMany
import HandS.ExcInit
import HandS.ExcField
import HandS.RaiseMore
import HandS.ExcCtx
import PyProof.ReprRoads
import HandS.Style
import PyProof.ReprLen
import HandS.Text
import PyProof.ListStr
import HandS.TupAny
import HandS.ExcValue
import HandS.ExcIs
import KE.KExcIs
import HandS.SortKw
import HandS.Conv
import HandS.Replace
import PyProof.Draws
import PyProof.EnumMake
import HandS.Zip
import HandS.Hot
import HandS.HotCalls
import KE.SortData
import PyProof.Claim2Refuses
import HandS.SetFor
import HandS.Strs
import HandS.SetTxt0
import HandS.More
import HandS.Deep
import KE.KDictZip
import KE.DataCmp
import PySem.Challenge.RW_slashlevels_k29_moves
set_option Elab.async false
set_option linter.all false
set_option maxRecDepth 100000
set_option exponentiation.threshold 10000
set_option maxHeartbeats 0
/-! VSa: data D, what represents it, abstract states, the judgements EX, VW, EO, TX, SX. -/
namespace VS
open PySem PySem.Spec PyProof.Rows L2
abbrev St := L2.St
/-- data without addresses -/
inductive D where
  | non | bl (b : Bool) | int (i : Int) | str (x : Str) | lst (xs : List D) | tup (xs : List D) | dic | obj (C : Str) (ns : List Str) (xs : List D)
/-- the names of an exception's fields begin so -/
def isX (ns : List Str) : Bool := ns.head? == some ("!" : Str)
/-- at a stands this very object -/
def xo (a : Addr) (oe : Obj) : HO := .ext fun h => h.get? a = some oe
/-- an instance of the class at C, or an exception -/
def ObjAt (G : Hp) (C a : Addr) (ns : List Str) (vs : List V) : Prop :=
  (isX ns = false ∧ ∃ dx, G a = some (.ins C dx (ns.zip vs)) ∧ G dx = some (.own a)) ∨
  (isX ns = true ∧ ∃ oe, G a = some (xo a oe) ∧ oe.cls = .ref C ∧ (∃ fv, oe.data = .fields fv) ∧ match ns.tail, vs.tail with
    | [], _ => oe.dict = none
    | f :: _, v :: _ => ∃ dx, oe.dict = some dx ∧ G dx = some (.xd [(f, v)])
    | _ :: _, [] => False)
theorem ObjAt.mono {G G' : Hp} (e : Same G G') {C a : Addr} {ns : List Str} {vs : List V} (h : ObjAt G C a ns vs) : ObjAt G' C a ns vs := by
  rcases h with ⟨h0, dx, h1, h2⟩ | ⟨h0, oe, h1, h2, h3, h4⟩
  · exact .inl ⟨h0, dx, e _ _ h1, e _ _ h2⟩
  · refine .inr ⟨h0, oe, e _ _ h1, h2, h3, ?_⟩
    split at h4
    · exact h4
    · obtain ⟨dx, k1, k2⟩ := h4
      exact ⟨dx, k1, e _ _ k2⟩
    · exact h4
mutual
/-- v represents d in the heap G -/
def Rp (K : PySem.W.Frag) (G : Hp) : D → V → Prop
  | .non, v => v = .non
  | .bl b, v => v = .bl b
  | .int i, v => v = .int i
  | .str x, v => v = .str x
  | .lst xs, v => ∃ a vs, v = .ref a ∧ SqL K G a vs ∧ RpL K G xs vs
  | .tup xs, v => ∃ a vs, v = .ref a ∧ SqT K G a vs ∧ RpL K G xs vs
  | .dic, v => ∃ a, v = .ref a ∧ G a = some (.dK [])
  | .obj c ns xs, v => ∃ C a vs, PySem.W.nsIn K mainGlobals c = some (some (.ref C)) ∧ v = .ref a ∧ ns.length = xs.length ∧ RpL K G xs vs ∧ ObjAt G C a ns vs
def RpL (K : PySem.W.Frag) (G : Hp) : List D → List V → Prop
  | [], vs => vs = []
  | d :: ds, vs => ∃ v r, vs = v :: r ∧ Rp K G d v ∧ RpL K G ds r
end
theorem Same.seqT {K : PySem.W.Frag} {H H' : Hp} {a : Addr} {xs : List V} (e : Same H H') (h : SqT K H a xs) : SqT K H' a xs := by
  rcases h with (h | ⟨o, h⟩) | h
  · exact .inl (.inl (e _ _ h))
  · exact .inl (.inr ⟨o, e _ _ h⟩)
  · exact .inr h
mutual
theorem Rp.mono {K : PySem.W.Frag} {G G' : Hp} (e : Same G G') : ∀ {d : D} {v : V}, Rp K G d v → Rp K G' d v
  | .non, _, h => by unfold Rp at *; exact h
  | .bl b, _, h => by unfold Rp at *; exact h
  | .int i, _, h => by unfold Rp at *; exact h
  | .str x, _, h => by unfold Rp at *; exact h
  | .lst xs, _, h => by
    unfold Rp at *
    obtain ⟨a, vs, h1, h2, h3⟩ := h
    exact ⟨a, vs, h1, e.seq h2, RpL.mono e h3⟩
  | .tup xs, _, h => by
    unfold Rp at *
    obtain ⟨a, vs, h1, h2, h3⟩ := h
    exact ⟨a, vs, h1, Same.seqT e h2, RpL.mono e h3⟩
  | .dic, _, h => by
    unfold Rp at *
    obtain ⟨a, h1, h2⟩ := h
    exact ⟨a, h1, e _ _ h2⟩
  | .obj C ns xs, _, h => by
    unfold Rp at *
    obtain ⟨A, a, vs, h0, h1, h2, h3, h4⟩ := h
    exact ⟨A, a, vs, h0, h1, h2, RpL.mono e h3, h4.mono e⟩
theorem RpL.mono {K : PySem.W.Frag} {G G' : Hp} (e : Same G G') : ∀ {ds : List D} {vs : List V}, RpL K G ds vs → RpL K G' ds vs
  | [], _, h => by unfold RpL at *; exact h
  | d :: ds, _, h => by
    unfold RpL at *
    obtain ⟨v, r, h1, h2, h3⟩ := h
    exact ⟨v, r, h1, Rp.mono e h2, RpL.mono e h3⟩
end
section
variable {K : PySem.W.Frag} {G : Hp}
theorem rp_non {v : V} : Rp K G .non v ↔ v = .non := by unfold Rp; rfl
theorem rp_bl {v : V} {b : Bool} : Rp K G (.bl b) v ↔ v = .bl b := by unfold Rp; rfl
theorem rp_int {v : V} {i : Int} : Rp K G (.int i) v ↔ v = .int i := by unfold Rp; rfl
theorem rp_str {v : V} {x : Str} : Rp K G (.str x) v ↔ v = .str x := by unfold Rp; rfl
theorem rp_lst {v : V} {xs : List D} : Rp K G (.lst xs) v ↔ ∃ a vs, v = .ref a ∧ SqL K G a vs ∧ RpL K G xs vs := by conv => lhs; unfold Rp
theorem rp_tup {v : V} {xs : List D} : Rp K G (.tup xs) v ↔ ∃ a vs, v = .ref a ∧ SqT K G a vs ∧ RpL K G xs vs := by conv => lhs; unfold Rp
theorem rp_dic {v : V} : Rp K G .dic v ↔ ∃ a, v = .ref a ∧ G a = some (.dK []) := by conv => lhs; unfold Rp
theorem rp_objA {v : V} {c : Str} {ns : List Str} {xs : List D} : Rp K G (.obj c ns xs) v ↔ ∃ C a vs, PySem.W.nsIn K mainGlobals c = some (some (.ref C)) ∧ v = .ref a ∧ ns.length = xs.length ∧ RpL K G xs vs ∧ ObjAt G C a ns vs := by conv => lhs; unfold Rp
theorem rp_obj {v : V} {c : Str} {ns : List Str} {xs : List D} (hx : isX ns = false) : Rp K G (.obj c ns xs) v ↔ ∃ C a dx vs, PySem.W.nsIn K mainGlobals c = some (some (.ref C)) ∧ v = .ref a ∧ G a = some (.ins C dx (ns.zip vs)) ∧ G dx = some (.own a) ∧ ns.length = xs.length ∧ RpL K G xs vs := by
  rw [rp_objA]
  constructor
  · rintro ⟨C, a, vs, h0, h1, h2, h3, ⟨_, dx, h4, h5⟩ | ⟨z, _⟩⟩
    · exact ⟨C, a, dx, vs, h0, h1, h4, h5, h2, h3⟩
    · rw [hx] at z; cases z
  · rintro ⟨C, a, dx, vs, h0, h1, h4, h5, h2, h3⟩
    exact ⟨C, a, vs, h0, h1, h2, h3, .inl ⟨hx, dx, h4, h5⟩⟩
theorem rpl_nil {vs : List V} : RpL K G [] vs ↔ vs = [] := by unfold RpL; rfl
theorem rpl_cons {d : D} {ds : List D} {vs : List V} : RpL K G (d :: ds) vs ↔ ∃ v r, vs = v :: r ∧ Rp K G d v ∧ RpL K G ds r := by conv => lhs; unfold RpL
theorem RpL.nil : RpL K G [] [] := rpl_nil.mpr rfl
theorem RpL.cons {d : D} {ds : List D} {v : V} {vs : List V} (h : Rp K G d v) (t : RpL K G ds vs) : RpL K G (d :: ds) (v :: vs) := rpl_cons.mpr ⟨v, vs, rfl, h, t⟩
theorem RpL.length : ∀ {ds : List D} {vs : List V}, RpL K G ds vs → ds.length = vs.length
  | [], _, h => by rw [rpl_nil.mp h]; rfl
  | d :: ds, _, h => by
    obtain ⟨v, r, rfl, _, h3⟩ := rpl_cons.mp h
    rw [List.length_cons, List.length_cons, RpL.length h3]
theorem RpL.get : ∀ {ds : List D} {vs : List V} {i : Nat} {d : D}, RpL K G ds vs → ds[i]? = some d → ∃ v, vs[i]? = some v ∧ Rp K G d v
  | [], _, _, _, _, e => by simp at e
  | d :: ds, _, 0, _, h, e => by
    obtain ⟨v, r, rfl, h2, _⟩ := rpl_cons.mp h
    have e' : d = _ := Option.some.inj e
    subst e'
    exact ⟨v, rfl, h2⟩
  | d :: ds, _, i + 1, x, h, e => by
    obtain ⟨v, r, rfl, _, h3⟩ := rpl_cons.mp h
    exact RpL.get (i := i) (d := x) h3 e
theorem RpL.append : ∀ {ds es : List D} {vs us : List V}, RpL K G ds vs → RpL K G es us → RpL K G (ds ++ es) (vs ++ us)
  | [], _, _, _, h, k => by rw [rpl_nil.mp h]; exact k
  | d :: ds, _, _, _, h, k => by
    obtain ⟨v, r, rfl, h2, h3⟩ := rpl_cons.mp h
    exact RpL.cons h2 (RpL.append h3 k)
theorem RpL.take : ∀ {ds : List D} {vs : List V} (n : Nat), RpL K G ds vs → RpL K G (ds.take n) (vs.take n)
  | _, _, 0, _ => RpL.nil
  | [], _, n + 1, h => by rw [rpl_nil.mp h]; exact RpL.nil
  | d :: ds, _, n + 1, h => by
    obtain ⟨v, r, rfl, h2, h3⟩ := rpl_cons.mp h
    exact RpL.cons h2 (RpL.take n h3)
theorem RpL.drop : ∀ {ds : List D} {vs : List V} (n : Nat), RpL K G ds vs → RpL K G (ds.drop n) (vs.drop n)
  | _, _, 0, h => h
  | [], _, n + 1, h => by rw [rpl_nil.mp h]; exact RpL.nil
  | d :: ds, _, n + 1, h => by
    obtain ⟨v, r, rfl, h2, h3⟩ := rpl_cons.mp h
    exact RpL.drop n h3
theorem RpL.set {x : D} {u : V} (hx : Rp K G x u) : ∀ {ds : List D} {vs : List V} (i : Nat), RpL K G ds vs → RpL K G (ds.set i x) (vs.set i u)
  | [], _, _, h => by rw [rpl_nil.mp h]; exact RpL.nil
  | d :: ds, _, 0, h => by
    obtain ⟨v, r, rfl, _, h3⟩ := rpl_cons.mp h
    exact RpL.cons hx h3
  | d :: ds, _, i + 1, h => by
    obtain ⟨v, r, rfl, h2, h3⟩ := rpl_cons.mp h
    exact RpL.cons h2 (RpL.set hx i h3)
theorem RpL.dropLast {ds : List D} {vs : List V} (h : RpL K G ds vs) : RpL K G ds.dropLast vs.dropLast := by
  rw [List.dropLast_eq_take, List.dropLast_eq_take, h.length]
  exact h.take _
theorem RpL.eraseIdx {ds : List D} {vs : List V} (i : Nat) (h : RpL K G ds vs) : RpL K G (ds.eraseIdx i) (vs.eraseIdx i) := by
  rw [List.eraseIdx_eq_take_drop_succ, List.eraseIdx_eq_take_drop_succ]
  exact (h.take _).append (h.drop _)
theorem RpL.ints : ∀ (ns : List Int), RpL K G (ns.map D.int) (ns.map V.int)
  | [] => RpL.nil
  | n :: ns => RpL.cons (rp_int.mpr rfl) (RpL.ints ns)
theorem RpL.unints : ∀ {ns : List Int} {vs : List V}, RpL K G (ns.map D.int) vs → vs = ns.map V.int
  | [], _, h => rpl_nil.mp h
  | n :: ns, _, h => by
    obtain ⟨v, r, rfl, h2, h3⟩ := rpl_cons.mp h
    rw [rp_int.mp h2, RpL.unints h3]
    rfl
theorem RpL.unbls : ∀ {bs : List Bool} {vs : List V}, RpL K G (bs.map D.bl) vs → vs = bs.map V.bl
  | [], _, h => rpl_nil.mp h
  | n :: ns, _, h => by
    obtain ⟨v, r, rfl, h2, h3⟩ := rpl_cons.mp h
    rw [rp_bl.mp h2, RpL.unbls h3]
    rfl
end
/-! ### lists of one's own within lists of one's own -/
/-- a list of its own at a, whose items may be such lists or tuples with such lists -/
inductive Tr where
  | leaf (d : D) | lst (a : Addr) (ts : List Tr) | tup (ts : List Tr)
  /-- as a whole slot only: a name for the list at a, which is out of sight -/
  | hole (a : Addr)
  /-- as a whole slot only: data for a while, at a known place -/
  | frz (a : Addr) (d : D)
  /-- as a whole slot only: a list of which some items are known -/
  | part (os : List (Option D))
  /-- an object of one's own: its class, its fields -/
  | ob (a : Addr) (c : Str) (ns : List Str) (ts : List Tr)
mutual
def Tr.strip : Tr → D
  | .leaf d => d
  | .lst _ ts => .lst (Tr.stripL ts)
  | .tup ts => .tup (Tr.stripL ts)
  | .hole _ => .non
  | .frz _ d => d
  | .part _ => .non
  | .ob _ c ns ts => .obj c ns (Tr.stripL ts)
def Tr.stripL : List Tr → List D
  | [] => []
  | t :: ts => t.strip :: Tr.stripL ts
end
mutual
/-- the addresses of its lists -/
def Tr.foot : Tr → List Addr
  | .leaf _ => []
  | .lst a ts => a :: Tr.footL ts
  | .tup ts => Tr.footL ts
  | .hole _ => []
  | .frz _ _ => []
  | .part _ => []
  | .ob a _ _ ts => a :: Tr.footL ts
def Tr.footL : List Tr → List Addr
  | [] => []
  | t :: ts => t.foot ++ Tr.footL ts
end
mutual
/-- v stands for the tree t: data and tuples in G, its lists in H -/
def TR (K : PySem.W.Frag) (G H : Hp) : Tr → V → Prop
  | .leaf d, v => Rp K G d v
  | .lst a ts, v => ∃ vs, v = .ref a ∧ H a = some (.lst vs) ∧ TRL K G H ts vs
  | .tup ts, v => ∃ a vs, v = .ref a ∧ SqT K G a vs ∧ TRL K G H ts vs
  | .hole _, _ => False
  | .frz a d, v => v = .ref a ∧ Rp K G d v
  | .part _, _ => False
  | .ob a c ns ts, v => ∃ C dx vs, PySem.W.nsIn K mainGlobals c = some (some (.ref C)) ∧ v = .ref a ∧ H a = some (.ins C dx (ns.zip vs)) ∧ G dx = some (.own a) ∧ ns.length = ts.length ∧ isX ns = false ∧ TRL K G H ts vs
def TRL (K : PySem.W.Frag) (G H : Hp) : List Tr → List V → Prop
  | [], vs => vs = []
  | t :: ts, vs => ∃ v r, vs = v :: r ∧ TR K G H t v ∧ TRL K G H ts r
end
section
variable {K : PySem.W.Frag} {G G' H H' : Hp}
theorem tr_leaf {d : D} {v : V} : TR K G H (.leaf d) v ↔ Rp K G d v := by unfold TR; rfl
theorem tr_lst {a : Addr} {ts : List Tr} {v : V} : TR K G H (.lst a ts) v ↔ ∃ vs, v = .ref a ∧ H a = some (.lst vs) ∧ TRL K G H ts vs := by conv => lhs; unfold TR
theorem tr_tup {ts : List Tr} {v : V} : TR K G H (.tup ts) v ↔ ∃ a vs, v = .ref a ∧ SqT K G a vs ∧ TRL K G H ts vs := by conv => lhs; unfold TR
theorem tr_ob {a : Addr} {c : Str} {ns : List Str} {ts : List Tr} {v : V} : TR K G H (.ob a c ns ts) v ↔ ∃ C dx vs, PySem.W.nsIn K mainGlobals c = some (some (.ref C)) ∧ v = .ref a ∧ H a = some (.ins C dx (ns.zip vs)) ∧ G dx = some (.own a) ∧ ns.length = ts.length ∧ isX ns = false ∧ TRL K G H ts vs := by conv => lhs; unfold TR
theorem tr_hole {a : Addr} {v : V} : ¬ TR K G H (.hole a) v := by unfold TR; exact id
theorem tr_frz {a : Addr} {d : D} {v : V} : TR K G H (.frz a d) v ↔ v = .ref a ∧ Rp K G d v := by unfold TR; rfl
theorem tr_part {os : List (Option D)} {v : V} : ¬ TR K G H (.part os) v := by unfold TR; exact id
theorem trl_nil {vs : List V} : TRL K G H [] vs ↔ vs = [] := by unfold TRL; rfl
theorem trl_cons {t : Tr} {ts : List Tr} {vs : List V} : TRL K G H (t :: ts) vs ↔ ∃ v r, vs = v :: r ∧ TR K G H t v ∧ TRL K G H ts r := by conv => lhs; unfold TRL
theorem foot_lst {a : Addr} {ts : List Tr} : (Tr.lst a ts).foot = a :: Tr.footL ts := by rw [Tr.foot]
theorem foot_tup {ts : List Tr} : (Tr.tup ts).foot = Tr.footL ts := by rw [Tr.foot]
theorem foot_leaf {d : D} : (Tr.leaf d).foot = [] := by rw [Tr.foot]
theorem foot_ob {a : Addr} {c : Str} {ns : List Str} {ts : List Tr} : (Tr.ob a c ns ts).foot = a :: Tr.footL ts := by rw [Tr.foot]
theorem foot_hole {a : Addr} : (Tr.hole a).foot = [] := by rw [Tr.foot]
theorem foot_frz {a : Addr} {d : D} : (Tr.frz a d).foot = [] := by rw [Tr.foot]
theorem foot_part {os : List (Option D)} : (Tr.part os).foot = [] := by rw [Tr.foot]
theorem footL_cons {t : Tr} {ts : List Tr} : Tr.footL (t :: ts) = t.foot ++ Tr.footL ts := by rw [Tr.footL]
theorem footL_nil : Tr.footL [] = [] := by rw [Tr.footL]
mutual
theorem TR.mono (e : Same G G') : ∀ {t : Tr} {v : V}, (∀ a ∈ t.foot, H' a = H a) → TR K G H t v → TR K G' H' t v
  | .leaf d, v, _, h => tr_leaf.mpr ((tr_leaf.mp h).mono e)
  | .lst a ts, v, hf, h => by
    obtain ⟨vs, h1, h2, h3⟩ := tr_lst.mp h
    rw [foot_lst] at hf
    exact tr_lst.mpr ⟨vs, h1, by rw [hf a (List.mem_cons_self ..)]; exact h2, TRL.mono e (fun b hb => hf b (List.mem_cons_of_mem _ hb)) h3⟩
  | .tup ts, v, hf, h => by
    obtain ⟨a, vs, h1, h2, h3⟩ := tr_tup.mp h
    rw [foot_tup] at hf
    exact tr_tup.mpr ⟨a, vs, h1, Same.seqT e h2, TRL.mono e hf h3⟩
  | .hole _, _, _, h => absurd h tr_hole
  | .part _, _, _, h => absurd h tr_part
  | .frz a d, v, _, h => tr_frz.mpr ⟨(tr_frz.mp h).1, (tr_frz.mp h).2.mono e⟩
  | .ob a c ns ts, v, hf, h => by
    obtain ⟨C, dx, vs, h0, h1, h2, h3, h4, h5, h6⟩ := tr_ob.mp h
    rw [foot_ob] at hf
    exact tr_ob.mpr ⟨C, dx, vs, h0, h1, by rw [hf a (List.mem_cons_self ..)]; exact h2, e _ _ h3, h4, h5, TRL.mono e (fun b hb => hf b (List.mem_cons_of_mem _ hb)) h6⟩
theorem TRL.mono (e : Same G G') : ∀ {ts : List Tr} {vs : List V}, (∀ a ∈ Tr.footL ts, H' a = H a) → TRL K G H ts vs → TRL K G' H' ts vs
  | [], vs, _, h => trl_nil.mpr (trl_nil.mp h)
  | t :: ts, vs, hf, h => by
    obtain ⟨v, r, h1, h2, h3⟩ := trl_cons.mp h
    rw [footL_cons] at hf
    exact trl_cons.mpr ⟨v, r, h1, TR.mono e (fun b hb => hf b (List.mem_append_left _ hb)) h2, TRL.mono e (fun b hb => hf b (List.mem_append_right _ hb)) h3⟩
end
mutual
theorem TR.ex : ∀ {t : Tr} {v : V} {a : Addr}, TR K G H t v → a ∈ t.foot → ∃ o, H a = some o
  | .leaf d, v, a, _, hf => by rw [foot_leaf] at hf; cases hf
  | .lst b ts, v, a, h, hf => by
    obtain ⟨vs, h1, h2, h3⟩ := tr_lst.mp h
    rw [foot_lst] at hf
    rcases List.mem_cons.mp hf with rfl | hf
    · exact ⟨_, h2⟩
    · exact TRL.ex h3 hf
  | .tup ts, v, a, h, hf => by
    obtain ⟨b, vs, h1, h2, h3⟩ := tr_tup.mp h
    rw [foot_tup] at hf
    exact TRL.ex h3 hf
  | .hole _, _, _, h, _ => absurd h tr_hole
  | .frz _ _, v, a, _, hf => by rw [foot_frz] at hf; cases hf
  | .part _, v, a, _, hf => by rw [foot_part] at hf; cases hf
  | .ob b c ns ts, v, a, h, hf => by
    obtain ⟨C, dx, vs, h0, h1, h2, h3, h4, h5, h6⟩ := tr_ob.mp h
    rw [foot_ob] at hf
    rcases List.mem_cons.mp hf with rfl | hf
    · exact ⟨_, h2⟩
    · exact TRL.ex h6 hf
theorem TRL.ex : ∀ {ts : List Tr} {vs : List V} {a : Addr}, TRL K G H ts vs → a ∈ Tr.footL ts → ∃ o, H a = some o
  | [], vs, a, _, hf => by rw [footL_nil] at hf; cases hf
  | t :: ts, vs, a, h, hf => by
    obtain ⟨v, r, h1, h2, h3⟩ := trl_cons.mp h
    rw [footL_cons] at hf
    rcases List.mem_append.mp hf with hf | hf
    · exact TR.ex h2 hf
    · exact TRL.ex h3 hf
end
mutual
/-- the tree as data, where its lists stand in G as in H -/
theorem TR.rp (s : Same G G') : ∀ {t : Tr} {v : V}, (∀ a ∈ t.foot, G' a = H a) → TR K G H t v → Rp K G' t.strip v
  | .leaf d, v, _, h => by rw [Tr.strip]; exact (tr_leaf.mp h).mono s
  | .lst a ts, v, hf, h => by
    obtain ⟨vs, h1, h2, h3⟩ := tr_lst.mp h
    rw [foot_lst] at hf
    rw [Tr.strip]
    exact rp_lst.mpr ⟨a, vs, h1, SqL.of (by rw [hf a (List.mem_cons_self ..)]; exact h2), TRL.rp s (fun b hb => hf b (List.mem_cons_of_mem _ hb)) h3⟩
  | .tup ts, v, hf, h => by
    obtain ⟨a, vs, h1, h2, h3⟩ := tr_tup.mp h
    rw [foot_tup] at hf
    rw [Tr.strip]
    exact rp_tup.mpr ⟨a, vs, h1, Same.seqT s h2, TRL.rp s hf h3⟩
  | .frz a d, v, _, h => by rw [Tr.strip]; exact (tr_frz.mp h).2.mono s
  | .part _, _, _, h => absurd h tr_part
  | .hole _, _, _, h => absurd h tr_hole
  | .ob a c ns ts, v, hf, h => by
    obtain ⟨C, dx, vs, h0, h1, h2, h3, h4, h5, h6⟩ := tr_ob.mp h
    rw [foot_ob] at hf
    rw [Tr.strip]
    have sl : ∀ us : List Tr, (Tr.stripL us).length = us.length := fun us => by
      induction us with
      | nil => rw [Tr.stripL]; rfl
      | cons u us ih => rw [Tr.stripL, List.length_cons, List.length_cons, ih]
    exact (rp_obj h5).mpr ⟨C, a, dx, vs, h0, h1, by rw [hf a (List.mem_cons_self ..)]; exact h2, s _ _ h3, by rw [sl]; exact h4, TRL.rp s (fun b hb => hf b (List.mem_cons_of_mem _ hb)) h6⟩
theorem TRL.rp (s : Same G G') : ∀ {ts : List Tr} {vs : List V}, (∀ a ∈ Tr.footL ts, G' a = H a) → TRL K G H ts vs → RpL K G' (Tr.stripL ts) vs
  | [], vs, _, h => by rw [Tr.stripL]; exact rpl_nil.mpr (trl_nil.mp h)
  | t :: ts, vs, hf, h => by
    obtain ⟨v, r, h1, h2, h3⟩ := trl_cons.mp h
    rw [footL_cons] at hf
    rw [Tr.stripL]
    exact rpl_cons.mpr ⟨v, r, h1, TR.rp s (fun b hb => hf b (List.mem_append_left _ hb)) h2, TRL.rp s (fun b hb => hf b (List.mem_append_right _ hb)) h3⟩
end
/-- a list with some known items -/
def PartR (K : PySem.W.Frag) (G : Hp) (os : List (Option D)) (v : V) : Prop := ∃ b vs, v = .ref b ∧ SqL K G b vs ∧ os.length = vs.length ∧ ∀ (k : Nat) (d : D) (w : V), os[k]? = some (some d) → vs[k]? = some w → Rp K G d w
/-- a slot's tree -/
def TRt (K : PySem.W.Frag) (G H : Hp) (t : Tr) (v : V) : Prop := match t with
  | .hole a => v = .ref a
  | .part os => PartR K G os v
  | t => TR K G H t v
/-- a tree in sight -/
def Tr.shut : Tr → Prop
  | .hole _ => False
  | .part _ => False
  | _ => True
@[simp] theorem shut_leaf {d : D} : (Tr.leaf d).shut = True := rfl
@[simp] theorem shut_lst {a : Addr} {ts : List Tr} : (Tr.lst a ts).shut = True := rfl
@[simp] theorem shut_tup {ts : List Tr} : (Tr.tup ts).shut = True := rfl
@[simp] theorem shut_ob {a : Addr} {c : Str} {ns : List Str} {ts : List Tr} : (Tr.ob a c ns ts).shut = True := rfl
@[simp] theorem shut_frz {a : Addr} {d : D} : (Tr.frz a d).shut = True := rfl
@[simp] theorem shut_part {os : List (Option D)} : (Tr.part os).shut = False := rfl
@[simp] theorem shut_hole {a : Addr} : (Tr.hole a).shut = False := rfl
theorem TRt.tr {t : Tr} {v : V} (h : TRt K G H t v) (s : t.shut) : TR K G H t v := by
  cases t with
  | hole a => exact s.elim
  | part os => exact s.elim
  | _ => exact h
theorem TRt.mono (e : Same G G') {t : Tr} {v : V} (hf : ∀ a ∈ t.foot, H' a = H a) (h : TRt K G H t v) : TRt K G' H' t v := by
  cases t with
  | hole a => exact h
  | part os =>
    obtain ⟨b, vs, h1, h2, h3, h4⟩ := h
    exact ⟨b, vs, h1, e.seq h2, h3, fun k d w q1 q2 => (h4 k d w q1 q2).mono e⟩
  | frz a d => exact TR.mono e hf h
  | leaf d => exact TR.mono e hf h
  | lst a ts => exact TR.mono e hf h
  | tup ts => exact TR.mono e hf h
  | ob a c ns ts => exact TR.mono e hf h
theorem TRt.ex {t : Tr} {v : V} {a : Addr} (h : TRt K G H t v) (ha : a ∈ t.foot) : ∃ o, H a = some o := by
  cases t with
  | hole b => rw [foot_hole] at ha; cases ha
  | frz b d => rw [foot_frz] at ha; cases ha
  | part os => rw [foot_part] at ha; cases ha
  | leaf d => exact TR.ex (t := .leaf d) h ha
  | lst b ts => exact TR.ex (t := .lst b ts) h ha
  | tup ts => exact TR.ex (t := .tup ts) h ha
  | ob b c ns ts => exact TR.ex (t := .ob b c ns ts) h ha
end
/-! ### growth of heaps -/
structure Grow (J H J' H' : Hp) : Prop where
  j : Same J J'
  jh : Same J' H'
  h : Same H H'
  n : ∀ a o, H a = some o → J a = none → J' a = none
theorem Grow.refl {J H : Hp} (s : Same J H) : Grow J H J H := ⟨Same.refl _, s, Same.refl _, fun _ _ _ h => h⟩
theorem Grow.trans {J H J1 H1 J2 H2 : Hp} (a : Grow J H J1 H1) (b : Grow J1 H1 J2 H2) : Grow J H J2 H2 :=
  ⟨a.j.trans b.j, b.jh, a.h.trans b.h, fun x o e n => b.n x o (a.h _ _ e) (a.n x o e n)⟩
theorem same_new {H : Hp} {p : Addr} {o : HO} (h : H p = none) : Same H (upd H p o) := fun b x e => by
  rw [upd_ne (ne_of_none e h)]
  exact e
theorem same_upd2 {J H : Hp} {p : Addr} {o : HO} (s : Same J H) : Same (upd J p o) (upd H p o) := fun b x e => by
  by_cases hb : b = p
  · rw [hb, upd_same] at e; rw [hb, upd_same]; exact e
  · rw [upd_ne hb] at e; rw [upd_ne hb]; exact s _ _ e
/-- a new object that never changes -/
theorem Grow.new {J H : Hp} {p : Addr} {o : HO} (s : Same J H) (h : H p = none) : Grow J H (upd J p o) (upd H p o) :=
  ⟨same_new (s.free h), same_upd2 s, same_new h, fun a x e n => by rw [upd_ne (ne_of_none e h)]; exact n⟩
/-! ### abstract states -/
inductive Sv where
  | un | dat (d : D) | own (io : Bool) (xs : List D)
  /-- as a result only: a tuple of a list of its own and data -/
  | pr (xs : List D) (d : D)
  | tre (t : Tr)
/-- an exception: its class by name, its field -/
structure Exc where
  c : Str
  fld : Option (Str × D)
def ExcIs (K : PySem.W.Frag) (G _H : Hp) (x : Exc) (cls : Value) (d : Option Addr) : Prop :=
  (∃ C, PySem.W.nsIn K mainGlobals x.c = some (some (.ref C)) ∧ cls = .ref C) ∧ match x.fld with
    | none => d = none
    | some (f, y) => ∃ dx v, d = some dx ∧ G dx = some (.xd [(f, v)]) ∧ Rp K G y v
/-- the trees of the slots -/
structure TrOk (K : PySem.W.Frag) (G F : Hp) (ρ : List Sv) (σ : St) (H : Hp) : Prop where
  got : ∀ (i : Nat) (t : Tr), ρ[i]? = some (.tre t) → ∃ v, σ[i]? = some (some v) ∧ TRt K G H t v ∧ t.foot.Nodup ∧ ∀ a ∈ t.foot, G a = none ∧ F a = none
  own : ∀ (i : Nat) (t : Tr) (j : Nat) (c : Bool) (ys : List D) (a : Addr), ρ[i]? = some (.tre t) → ρ[j]? = some (.own c ys) → σ[j]? = some (some (.ref a)) → a ∉ t.foot
  ne : ∀ (i : Nat) (t : Tr) (j : Nat) (u : Tr), ρ[i]? = some (.tre t) → ρ[j]? = some (.tre u) → i ≠ j → ∀ a ∈ t.foot, a ∉ u.foot
/-- a is no slot's list -/
structure NoS (ρ : List Sv) (σ : St) (a : Addr) : Prop where
  own : ∀ (i : Nat) (b : Bool) (ys : List D), ρ[i]? = some (.own b ys) → σ[i]? ≠ some (some (.ref a))
  tre : ∀ (i : Nat) (t : Tr), ρ[i]? = some (.tre t) → a ∉ t.foot
/-- trees stay where heaps grow and slots change that hold none -/
theorem TrOk.step {K : PySem.W.Frag} {G G' F F' : Hp} {ρ ρ' : List Sv} {σ σ' : St} {H H' : Hp} (T : TrOk K G F ρ σ H) (hρ : ∀ (i : Nat) (t : Tr), ρ'[i]? = some (.tre t) → ρ[i]? = some (.tre t) ∧ σ'[i]? = σ[i]?)
    (hG : Same G G') (hH : ∀ (i : Nat) (t : Tr) (a : Addr), ρ'[i]? = some (.tre t) → a ∈ t.foot → H' a = H a ∧ G' a = none ∧ F' a = none)
    (ho : ∀ (j : Nat) (c : Bool) (ys : List D) (a : Addr) (i : Nat) (t : Tr), ρ'[j]? = some (.own c ys) → σ'[j]? = some (some (.ref a)) → ρ'[i]? = some (.tre t) → a ∉ t.foot) : TrOk K G' F' ρ' σ' H' := by
  refine ⟨fun i t e => ?_, fun i t j c ys a e1 e2 e3 => ho j c ys a i t e2 e3 e1, fun i t j u e1 e2 => T.ne i t j u (hρ i t e1).1 (hρ j u e2).1⟩
  obtain ⟨e1, e2⟩ := hρ i t e
  obtain ⟨v, h1, h2, h3, h4⟩ := T.got i t e1
  exact ⟨v, by rw [e2]; exact h1, TRt.mono hG (fun a ha => (hH i t a e ha).1) h2, h3, fun a ha => (hH i t a e ha).2⟩
/-- .. where no slot changes -/
theorem TrOk.same {K : PySem.W.Frag} {G G' F F' : Hp} {ρ : List Sv} {σ : St} {H H' : Hp} (T : TrOk K G F ρ σ H) (hG : Same G G') (hH : ∀ (i : Nat) (t : Tr) (a : Addr), ρ[i]? = some (.tre t) → a ∈ t.foot → H' a = H a ∧ G' a = none ∧ F' a = none) : TrOk K G' F' ρ σ H' :=
  T.step (fun _ _ e => ⟨e, rfl⟩) hG hH fun j c ys a i t e1 e2 e3 => T.own i t j c ys a e3 e1 e2
theorem TrOk.ex {K : PySem.W.Frag} {G F : Hp} {ρ : List Sv} {σ : St} {H : Hp} (T : TrOk K G F ρ σ H) {i : Nat} {t : Tr} {a : Addr} (e : ρ[i]? = some (.tre t)) (ha : a ∈ t.foot) : (∃ o, H a = some o) ∧ G a = none ∧ F a = none := by
  obtain ⟨v, h1, h2, h3, h4⟩ := T.got i t e
  exact ⟨h2.ex ha, h4 a ha⟩
structure Rel (K : PySem.W.Frag) (P : List (Nat × Addr)) (G F : Hp) (ρ : List Sv) (σ : St) (H : Hp) : Prop where
  len : ρ.length = σ.length
  sg : Same G H
  sf : Same F H
  gf : ∀ a o, F a = some o → G a = none
  dat : ∀ (i : Nat) (d : D), ρ[i]? = some (.dat d) → ∃ v, σ[i]? = some (some v) ∧ Rp K G d v
  own : ∀ (i : Nat) (b : Bool) (xs : List D), ρ[i]? = some (.own b xs) → ∃ a vs, σ[i]? = some (some (.ref a)) ∧ H a = some (.lst vs) ∧ G a = none ∧ F a = none ∧ RpL K G xs vs
  ne : ∀ (i j : Nat) (a : Addr) (b : Bool) (xs : List D) (c : Bool) (ys : List D), ρ[i]? = some (.own b xs) → ρ[j]? = some (.own c ys) → σ[i]? = some (some (.ref a)) → σ[j]? = some (some (.ref a)) → i = j
  pin : ∀ p ∈ P, σ[p.1]? = some (some (.ref p.2)) ∧ ∃ xs, ρ[p.1]? = some (.own true xs)
  pinc : ∀ (i : Nat) (xs : List D), ρ[i]? = some (.own true xs) → ∃ a, (i, a) ∈ P
  tr : TrOk K G F ρ σ H
section
variable {K : PySem.W.Frag} {P : List (Nat × Addr)} {G F G' : Hp} {ρ : List Sv} {σ : St} {H H' : Hp}
theorem Rel.grow (R : Rel K P G F ρ σ H) (g : Grow G H G' H') : Rel K P G' F ρ σ H' where
  len := R.len
  sg := g.jh
  sf := R.sf.trans g.h
  gf := fun a o e => g.n a o (R.sf _ _ e) (R.gf a o e)
  dat := fun i d e => by
    obtain ⟨v, h1, h2⟩ := R.dat i d e
    exact ⟨v, h1, h2.mono g.j⟩
  own := fun i b xs e => by
    obtain ⟨a, vs, h1, h2, h3, h4, h5⟩ := R.own i b xs e
    exact ⟨a, vs, h1, g.h _ _ h2, g.n _ _ h2 h3, h4, h5.mono g.j⟩
  ne := R.ne
  pin := R.pin
  pinc := R.pinc
  tr := R.tr.same g.j fun i t a e ha => by
    obtain ⟨⟨ov, h1⟩, h2, h3⟩ := R.tr.ex e ha
    exact ⟨by rw [h1]; exact g.h _ _ h1, g.n _ _ h1 h2, h3⟩
/-- a new own cell that stands in no slot: the heap grows -/
theorem Rel.alloc (R : Rel K P G F ρ σ H) {p : Addr} {o : HO} (h : H p = none) : Rel K P G F ρ σ (upd H p o) where
  len := R.len
  sg := R.sg.trans (same_new h)
  sf := R.sf.trans (same_new h)
  gf := R.gf
  dat := R.dat
  own := fun i b xs e => by
    obtain ⟨a, vs, h1, h2, h3, h4, h5⟩ := R.own i b xs e
    exact ⟨a, vs, h1, same_new h _ _ h2, h3, h4, h5⟩
  ne := R.ne
  pin := R.pin
  pinc := R.pinc
  tr := R.tr.same (Same.refl _) fun i t a e ha => by
    obtain ⟨⟨ov, h1⟩, h2, h3⟩ := R.tr.ex e ha
    exact ⟨by rw [h1]; exact same_new h _ _ h1, h2, h3⟩
end
/-! ### judgements -/
abbrev KD := D → List Sv → Prop
abbrev KX := Exc → List Sv → Prop
abbrev AE := List Sv → KD → KX → Prop
abbrev AV := List Sv → (D → Prop) → Prop
abbrev AO := List Sv → (List D → List Sv → Prop) → KX → Prop
abbrev AT := List Sv → (Bool → List Sv → Prop) → KX → Prop
/-- what is wanted of exceptions -/
def XIn (X : Cx) (W : WX) (P : List (Nat × Addr)) (G F : Hp) (σ : St) (Z : KX) : Prop :=
  ∀ G' ρ' H' x cls d, Rel X.K P G' F ρ' σ H' → Same G G' → ExcIs X.K G' H' x cls d → Z x ρ' → W cls d σ H'
theorem XIn.mono {X : Cx} {W : WX} {P : List (Nat × Addr)} {G F G1 : Hp} {σ : St} {Z : KX} (h : XIn X W P G F σ Z) (e : Same G G1) : XIn X W P G1 F σ Z :=
  fun G' ρ' H' x cls d R s E z => h G' ρ' H' x cls d R (e.trans s) E z
/-- an expression gives data that stays -/
structure EX (X : Cx) (W : WX) (e : Expr) (t : AE) : Prop where
  ex : ∃ T : TE, PE X e T ∧ ∀ P G F ρ σ H (Q : KD) (Z : KX) (Q' : VK), Rel X.K P G F ρ σ H → t ρ Q Z → XIn X W P G F σ Z →
    (∀ G' ρ' H' v d, Rel X.K P G' F ρ' σ H' → Same G G' → Rp X.K G' d v → Q d ρ' → Q' v H') → T σ H Q'
/-- an expression that only reads; its value may be an own list as it stands -/
structure VW (X : Cx) (e : Expr) (t : AV) : Prop where
  ex : ∃ T : TE, PE X e T ∧ ∀ P G F ρ σ H (Q : D → Prop) (Q' : VK), Rel X.K P G F ρ σ H → t ρ Q →
    (∀ G' H' v d, Rel X.K P G' F ρ σ H' → Same G G' → Same H H' → Rp X.K H' d v → Q d → Q' v H') → T σ H Q'
/-- an expression that gives a list of its own -/
structure EO (X : Cx) (W : WX) (e : Expr) (t : AO) : Prop where
  ex : ∃ T : TE, PE X e T ∧ ∀ P G F ρ σ H (Q : List D → List Sv → Prop) (Z : KX) (Q' : VK), Rel X.K P G F ρ σ H → t ρ Q Z → XIn X W P G F σ Z →
    (∀ G' ρ' H' a vs xs, Rel X.K P G' F ρ' σ H' → Same G G' → H' a = some (.lst vs) → G' a = none → F a = none → NoS ρ' σ a → RpL X.K G' xs vs → Q xs ρ' → Q' (.ref a) H') → T σ H Q'
/-- a test -/
structure TX (X : Cx) (W : WX) (e : Expr) (t : AT) : Prop where
  ex : ∃ T : TT, PT X e T ∧ ∀ P G F ρ σ H (Q : Bool → List Sv → Prop) (Z : KX) (Q' : Bool → Hp → Prop), Rel X.K P G F ρ σ H → t ρ Q Z → XIn X W P G F σ Z →
    (∀ G' ρ' H' b, Rel X.K P G' F ρ' σ H' → Same G G' → Q b ρ' → Q' b H') → T σ H Q'
/-- a test within and, or -/
structure TWX (X : Cx) (W : WX) (e : Expr) (t : AT) : Prop where
  ex : ∃ T : TT, PW X e T ∧ ∀ P G F ρ σ H (Q : Bool → List Sv → Prop) (Z : KX) (Q' : Bool → Hp → Prop), Rel X.K P G F ρ σ H → t ρ Q Z → XIn X W P G F σ Z →
    (∀ G' ρ' H' b, Rel X.K P G' F ρ' σ H' → Same G G' → Q b ρ' → Q' b H') → T σ H Q'
structure AEnds where
  nx : List Sv → Prop
  rt : Sv → List Sv → Prop
  bk : List Sv → Prop := fun _ => False
  ct : List Sv → Prop := fun _ => False
  xx : KX := fun _ _ => False
abbrev AS := AEnds → List Sv → Prop
/-- a result -/
def Rr (K : PySem.W.Frag) (P : List (Nat × Addr)) (G F : Hp) (r : Sv) (v : V) (H : Hp) : Prop := match r with
  | .un => False
  | .tre _ => False
  | .dat d => Rp K G d v
  | .own _ xs => ∃ a vs, v = .ref a ∧ H a = some (.lst vs) ∧ G a = none ∧ F a = none ∧ (∀ p ∈ P, p.2 ≠ a) ∧ RpL K G xs vs
  | .pr xs d => ∃ t a vs u, v = .ref t ∧ H t = some (.tup [.ref a, u]) ∧ H a = some (.lst vs) ∧ G a = none ∧ F a = none ∧ (∀ p ∈ P, p.2 ≠ a) ∧ RpL K G xs vs ∧ Rp K G d u
structure EndsOk (X : Cx) (W : WX) (P : List (Nat × Addr)) (G F : Hp) (D : AEnds) (D' : Ends) : Prop where
  nx : ∀ G' ρ' σ' H', Rel X.K P G' F ρ' σ' H' → Same G G' → D.nx ρ' → D'.nx σ' H'
  rt : ∀ G' ρ' σ' H' r v, Rel X.K P G' F ρ' σ' H' → Same G G' → Rr X.K P G' F r v H' → D.rt r ρ' → D'.rt v H'
  bk : ∀ G' ρ' σ' H', Rel X.K P G' F ρ' σ' H' → Same G G' → D.bk ρ' → D'.bk σ' H'
  ct : ∀ G' ρ' σ' H', Rel X.K P G' F ρ' σ' H' → Same G G' → D.ct ρ' → D'.ct σ' H'
  xx : ∀ σ', XIn X W P G F σ' D.xx
theorem EndsOk.mono {X : Cx} {W : WX} {P : List (Nat × Addr)} {G F G1 : Hp} {D : AEnds} {D' : Ends} (h : EndsOk X W P G F D D') (e : Same G G1) : EndsOk X W P G1 F D D' :=
  ⟨fun G' ρ' σ' H' R s => h.nx G' ρ' σ' H' R (e.trans s), fun G' ρ' σ' H' r v R s => h.rt G' ρ' σ' H' r v R (e.trans s), fun G' ρ' σ' H' R s => h.bk G' ρ' σ' H' R (e.trans s), fun G' ρ' σ' H' R s => h.ct G' ρ' σ' H' R (e.trans s), fun σ' => (h.xx σ').mono e⟩
structure SX (X : Cx) (W : WX) (st : Stmt) (t : AS) : Prop where
  ex : ∃ T : TS, PS X st T ∧ ∀ P G F ρ σ H (D : AEnds) (D' : Ends), Rel X.K P G F ρ σ H → t D ρ → EndsOk X W P G F D D' → T D' σ H
structure SXs (X : Cx) (W : WX) (st : List Stmt) (t : AS) : Prop where
  ex : ∃ T : TS, PSs X st T ∧ ∀ P G F ρ σ H (D : AEnds) (D' : Ends), Rel X.K P G F ρ σ H → t D ρ → EndsOk X W P G F D D' → T D' σ H
/-! ### names and constants -/
def aVar (i : Nat) : AE := fun ρ Q _ => match ρ[i]? with
  | some (.dat d) => Q d ρ
  | some (.own false xs) => Q (.lst xs) (ρ.set i (.dat (.lst xs)))
  | some (.tre (.frz _ d)) => Q d ρ
  | some (.tre t) => t.shut ∧ Q t.strip (ρ.set i (.dat t.strip))
  | _ => False
def aC (d : D) : AE := fun ρ Q _ => Q d ρ
def vVar (i : Nat) : AV := fun ρ Q => match ρ[i]? with
  | some (.dat d) => Q d
  | some (.own _ xs) => Q (.lst xs)
  | some (.tre t) => t.shut ∧ Q t.strip
  | _ => False
def vC (d : D) : AV := fun _ Q => Q d
section
variable {K : PySem.W.Frag} {P : List (Nat × Addr)} {G F G' : Hp} {ρ : List Sv} {σ : St} {H H' : Hp}
theorem get_set {α : Type} {l : List α} {i j : Nat} {x y : α} (h : (l.set i x)[j]? = some y) : (j = i ∧ y = x) ∨ (j ≠ i ∧ l[j]? = some y) := by
  rw [List.getElem?_set] at h
  by_cases e : i = j
  · subst e
    rw [if_pos rfl] at h
    split at h
    · exact .inl ⟨rfl, (Option.some.inj h).symm⟩
    · cases h
  · rw [if_neg e] at h
    exact .inr ⟨fun z => e z.symm, h⟩
/-- an own list of a slot is from now on data -/
theorem Rel.freeze (R : Rel K P G F ρ σ H) {i : Nat} {xs : List D} (e : ρ[i]? = some (.own false xs)) :
    ∃ a G', σ[i]? = some (some (.ref a)) ∧ Rel K P G' F (ρ.set i (.dat (.lst xs))) σ H ∧ Same G G' ∧ Rp K G' (.lst xs) (.ref a) := by
  obtain ⟨a, vs, h1, h2, h3, h4, h5⟩ := R.own i false xs e
  have sG : Same G (upd G a (.lst vs)) := same_new h3
  have rp : Rp K (upd G a (.lst vs)) (.lst xs) (.ref a) := rp_lst.mpr ⟨a, vs, rfl, SqL.of upd_same, h5.mono sG⟩
  refine ⟨a, upd G a (.lst vs), h1, ⟨by rw [List.length_set]; exact R.len, fun b o q => ?_, R.sf, fun b o q => ?_, fun j d q => ?_, fun j b ys q => ?_, fun j k c b ys b' zs q1 q2 => ?_, fun p hp => ?_, fun j ys q => ?_, R.tr.step (fun j t q => ?_) sG (fun j t b q hb => ?_) (fun j c ys b k t q1 q2 q3 => ?_)⟩, sG, rp⟩
  · by_cases hb : b = a
    · rw [hb, upd_same] at q; rw [hb, h2]; exact q
    · rw [upd_ne hb] at q; exact R.sg _ _ q
  · rw [upd_ne (ne_of_none q h4)]; exact R.gf b o q
  · rcases get_set q with ⟨rfl, z⟩ | ⟨_, q⟩
    · cases z; exact ⟨_, h1, rp⟩
    · obtain ⟨v, g1, g2⟩ := R.dat j d q
      exact ⟨v, g1, g2.mono sG⟩
  · rcases get_set q with ⟨rfl, z⟩ | ⟨hj, q⟩
    · cases z
    · obtain ⟨c, us, g1, g2, g3, g4, g5⟩ := R.own j b ys q
      refine ⟨c, us, g1, g2, ?_, g4, g5.mono sG⟩
      rw [upd_ne fun z => ?_]
      · exact g3
      · subst z
        exact hj (R.ne j i c b ys false xs q e g1 h1)
  · rcases get_set q1 with ⟨_, z⟩ | ⟨_, q1⟩
    · cases z
    rcases get_set q2 with ⟨_, z⟩ | ⟨_, q2⟩
    · cases z
    exact R.ne j k c b ys b' zs q1 q2
  · obtain ⟨g1, zs, g2⟩ := R.pin p hp
    refine ⟨g1, zs, ?_⟩
    rw [List.getElem?_set_ne]
    · exact g2
    · intro z
      rw [← z, e] at g2
      cases g2
  · rcases get_set q with ⟨_, z⟩ | ⟨_, q⟩
    · cases z
    · exact R.pinc j ys q
  · rcases get_set q with ⟨_, z⟩ | ⟨_, q⟩
    · cases z
    · exact ⟨q, rfl⟩
  · rcases get_set q with ⟨_, z⟩ | ⟨_, q⟩
    · cases z
    obtain ⟨_, g2, g3⟩ := R.tr.ex q hb
    exact ⟨rfl, by rw [upd_ne fun z => R.tr.own j t i false xs a q e h1 (by rw [← z]; exact hb)]; exact g2, g3⟩
  · rcases get_set q1 with ⟨_, z⟩ | ⟨_, q1⟩
    · cases z
    rcases get_set q3 with ⟨_, z⟩ | ⟨_, q3⟩
    · cases z
    exact R.tr.own k t j c ys b q3 q1 q2
open Classical in
/-- a tree of a slot is from now on data -/
theorem Rel.freezeT (R : Rel K P G F ρ σ H) {i : Nat} {t : Tr} (e : ρ[i]? = some (.tre t)) (hs : t.shut) :
    ∃ v G', σ[i]? = some (some v) ∧ Rel K P G' F (ρ.set i (.dat t.strip)) σ H ∧ Same G G' ∧ Rp K G' t.strip v := by
  obtain ⟨v, h1, h2, h3, h4⟩ := R.tr.got i t e
  let G' : Hp := fun a => if a ∈ t.foot then H a else G a
  have yes : ∀ {a}, a ∈ t.foot → G' a = H a := fun ha => if_pos ha
  have no : ∀ {a}, a ∉ t.foot → G' a = G a := fun ha => if_neg ha
  have sG : Same G G' := fun b o q => by rw [no fun hb => by rw [(h4 b hb).1] at q; cases q]; exact q
  have rp : Rp K G' t.strip v := (h2.tr hs).rp sG fun a ha => yes ha
  refine ⟨v, G', h1, ⟨by rw [List.length_set]; exact R.len, fun b o q => ?_, R.sf, fun b o q => ?_, fun j d q => ?_, fun j b ys q => ?_, fun j k c b ys b' zs q1 q2 => ?_, fun p hp => ?_, fun j ys q => ?_, R.tr.step (fun j u q => ?_) sG (fun j u b q hb => ?_) (fun j c ys b k u q1 q2 q3 => ?_)⟩, sG, rp⟩
  · by_cases hb : b ∈ t.foot
    · rw [yes hb] at q; exact q
    · rw [no hb] at q; exact R.sg _ _ q
  · rw [no fun hb => by rw [(h4 b hb).2] at q; cases q]; exact R.gf b o q
  · rcases get_set q with ⟨rfl, z⟩ | ⟨_, q⟩
    · cases z; exact ⟨_, h1, rp⟩
    · obtain ⟨v, g1, g2⟩ := R.dat j d q
      exact ⟨v, g1, g2.mono sG⟩
  · rcases get_set q with ⟨rfl, z⟩ | ⟨hj, q⟩
    · cases z
    · obtain ⟨c, us, g1, g2, g3, g4, g5⟩ := R.own j b ys q
      exact ⟨c, us, g1, g2, by rw [no (R.tr.own i t j b ys c e q g1)]; exact g3, g4, g5.mono sG⟩
  · rcases get_set q1 with ⟨_, z⟩ | ⟨_, q1⟩
    · cases z
    rcases get_set q2 with ⟨_, z⟩ | ⟨_, q2⟩
    · cases z
    exact R.ne j k c b ys b' zs q1 q2
  · obtain ⟨g1, zs, g2⟩ := R.pin p hp
    refine ⟨g1, zs, ?_⟩
    rw [List.getElem?_set_ne]
    · exact g2
    · intro z
      rw [← z, e] at g2
      cases g2
  · rcases get_set q with ⟨_, z⟩ | ⟨_, q⟩
    · cases z
    · exact R.pinc j ys q
  · rcases get_set q with ⟨_, z⟩ | ⟨_, q⟩
    · cases z
    · exact ⟨q, rfl⟩
  · rcases get_set q with ⟨_, z⟩ | ⟨hj, q⟩
    · cases z
    obtain ⟨_, g2, g3⟩ := R.tr.ex q hb
    exact ⟨rfl, by rw [no (R.tr.ne j u i t q e hj b hb)]; exact g2, g3⟩
  · rcases get_set q1 with ⟨_, z⟩ | ⟨_, q1⟩
    · cases z
    rcases get_set q3 with ⟨_, z⟩ | ⟨_, q3⟩
    · cases z
    exact R.tr.own k u j c ys b q3 q1 q2
end
section
variable {X : Cx} {W : WX} {pos : Pos}
theorem ev (i : Nat) {x : Str} (hN : X.N[i]? = some x := by rfl) (hv : Vis X.env.scope x := by first | exact Or.inl rfl | exact Or.inr (Or.inl rfl) | exact Or.inr (Or.inr rfl)) (hd : (x == ("__debug__" : Str)) = false := by decide)
    (hcd : (x == ("__classdict__" : Str)) = false := by decide) : EX X W (.Name x pos) (aVar i) := by
  refine ⟨_, pe_var hN hv hd hcd, fun P G F ρ σ H Q Z Q' R h _ hq => ?_⟩
  unfold aVar at h
  cases e : ρ[i]? with
  | none => rw [e] at h; exact h.elim
  | some s =>
    rw [e] at h
    cases s with
    | un => exact h.elim
    | pr _ _ => exact h.elim
    | tre t =>
      have gen : t.shut → Q t.strip (ρ.set i (.dat t.strip)) → ∃ v, σ[i]? = some (some v) ∧ Q' v H := fun h1 h2 => by
        obtain ⟨v, G', h3, R', sG, rp⟩ := R.freezeT e h1
        exact ⟨_, h3, hq G' _ H _ _ R' sG rp h2⟩
      cases t with
      | frz a d =>
        obtain ⟨v, h1, h2, _, _⟩ := R.tr.got i _ e
        exact ⟨v, h1, hq G ρ H v d R (Same.refl _) (tr_frz.mp (TRt.tr h2 (by trivial))).2 h⟩
      | leaf d => exact gen h.1 h.2
      | lst a ts => exact gen h.1 h.2
      | tup ts => exact gen h.1 h.2
      | hole a => exact gen h.1 h.2
      | part os => exact gen h.1 h.2
      | ob a c ns ts => exact gen h.1 h.2
    | dat d =>
      obtain ⟨v, h1, h2⟩ := R.dat i d e
      exact ⟨v, h1, hq G ρ H v d R (Same.refl _) h2 h⟩
    | own b xs =>
      cases b with
      | true => exact h.elim
      | false =>
        obtain ⟨a, G', h1, R', sG, rp⟩ := R.freeze e
        exact ⟨_, h1, hq G' _ H _ _ R' sG rp h⟩
theorem vv (i : Nat) {x : Str} (hN : X.N[i]? = some x := by rfl) (hv : Vis X.env.scope x := by first | exact Or.inl rfl | exact Or.inr (Or.inl rfl) | exact Or.inr (Or.inr rfl)) (hd : (x == ("__debug__" : Str)) = false := by decide)
    (hcd : (x == ("__classdict__" : Str)) = false := by decide) : VW X (.Name x pos) (vVar i) := by
  refine ⟨_, pe_var hN hv hd hcd, fun P G F ρ σ H Q Q' R h hq => ?_⟩
  unfold vVar at h
  cases e : ρ[i]? with
  | none => rw [e] at h; exact h.elim
  | some s =>
    rw [e] at h
    cases s with
    | un => exact h.elim
    | pr _ _ => exact h.elim
    | tre t =>
      obtain ⟨v, h1, h2, _, _⟩ := R.tr.got i t e
      exact ⟨v, h1, hq G H v _ R (Same.refl _) (Same.refl _) ((h2.tr h.1).rp R.sg fun _ _ => rfl) h.2⟩
    | dat d =>
      obtain ⟨v, h1, h2⟩ := R.dat i d e
      exact ⟨v, h1, hq G H v d R (Same.refl _) (Same.refl _) (h2.mono R.sg) h⟩
    | own b xs =>
      obtain ⟨a, vs, h1, h2, h3, h4, h5⟩ := R.own i b xs e
      exact ⟨_, h1, hq G H _ _ R (Same.refl _) (Same.refl _) (rp_lst.mpr ⟨a, vs, rfl, SqL.of h2, h5.mono R.sg⟩) h⟩
theorem e_C {e : Expr} {v : V} {d : D} (h : PE X e (tC v)) (r : ∀ G, Rp X.K G d v) : EX X W e (aC d) :=
  ⟨_, h, fun P G F ρ σ H Q Z Q' R h _ hq => hq G ρ H _ _ R (Same.refl _) (r G) h⟩
theorem v_C {e : Expr} {v : V} {d : D} (h : PE X e (tC v)) (r : ∀ G, Rp X.K G d v) : VW X e (vC d) :=
  ⟨_, h, fun P G F ρ σ H Q Q' R h hq => hq G H _ _ R (Same.refl _) (Same.refl _) (r H) h⟩
theorem e_int {i j} : EX X W (.Constant (.int i) j pos) (aC (.int i)) := e_C pe_int fun _ => rp_int.mpr rfl
theorem e_bl {b j} : EX X W (.Constant (.bool b) j pos) (aC (.bl b)) := e_C pe_bl fun _ => rp_bl.mpr rfl
theorem e_non {j} : EX X W (.Constant .none j pos) (aC .non) := e_C pe_non fun _ => rp_non.mpr rfl
theorem e_str {x j} : EX X W (.Constant (.str x) j pos) (aC (.str x)) := e_C pe_str fun _ => rp_str.mpr rfl
theorem v_int {i j} : VW X (.Constant (.int i) j pos) (vC (.int i)) := v_C pe_int fun _ => rp_int.mpr rfl
theorem v_non {j} : VW X (.Constant .none j pos) (vC .non) := v_C pe_non fun _ => rp_non.mpr rfl
theorem v_str {x j} : VW X (.Constant (.str x) j pos) (vC (.str x)) := v_C pe_str fun _ => rp_str.mpr rfl
end
end VS
/-! VSb: expressions. -/
namespace VS
open PySem PySem.Spec PyProof.Rows L2
/-! ### operations on data -/
def B2 (K : PySem.W.Frag) (r : R2) (b : D → D → (D → Prop) → Prop) : Prop :=
  ∀ (J H : Hp) (d e : D) (v u : V) (Q : D → Prop) (Q' : VK), Same J H → Rp K J d v → Rp K J e u → b d e Q → (∀ J' H' z w, Grow J H J' H' → Rp K J' z w → Q z → Q' w H') → r v u H Q'
def B1 (K : PySem.W.Frag) (r : V → Hp → VK → Prop) (b : D → (D → Prop) → Prop) : Prop :=
  ∀ (J H : Hp) (d : D) (v : V) (Q : D → Prop) (Q' : VK), Same J H → Rp K J d v → b d Q → (∀ J' H' z w, Grow J H J' H' → Rp K J' z w → Q z → Q' w H') → r v H Q'
def BN (K : PySem.W.Frag) (r : List V → Hp → VK → Prop) (b : List D → (D → Prop) → Prop) : Prop :=
  ∀ (J H : Hp) (ds : List D) (vs : List V) (Q : D → Prop) (Q' : VK), Same J H → RpL K J ds vs → b ds Q → (∀ J' H' z w, Grow J H J' H' → Rp K J' z w → Q z → Q' w H') → r vs H Q'
theorem OpR.or {X : Cx} {f : Value → Value → Sem Value} {r r' : R2} (h : OpR X f r) (h' : OpR X f r') : OpR X f (fun x y H Q => r x y H Q ∨ r' x y H Q) := by
  intro pins s σ H x y v u Q I rx ry q
  rcases q with q | q
  · exact h pins s σ H x y v u Q I rx ry q
  · exact h' pins s σ H x y v u Q I rx ry q
def aOp (b : D → D → (D → Prop) → Prop) (ta tb : AE) : AE := fun ρ Q Z => ta ρ (fun x ρ1 => tb ρ1 (fun y ρ2 => b x y fun z => Q z ρ2) Z) Z
def vOp (b : D → D → (D → Prop) → Prop) (ta tb : AV) : AV := fun ρ Q => ta ρ fun x => tb ρ fun y => b x y Q
def aUn (b : D → (D → Prop) → Prop) (ta : AE) : AE := fun ρ Q Z => ta ρ (fun x ρ1 => b x fun z => Q z ρ1) Z
def vUn (b : D → (D → Prop) → Prop) (ta : AV) : AV := fun ρ Q => ta ρ fun x => b x Q
section
variable {K : PySem.W.Frag} {P : List (Nat × Addr)} {G F G' : Hp} {ρ : List Sv} {σ : St} {H H' : Hp}
/-- the heap grows and the data too, by what stood in all of the heap -/
theorem Rel.growV (R : Rel K P G F ρ σ H) {J' : Hp} (g : Grow H H J' H') : Rel K P G F ρ σ H' :=
  R.grow ⟨Same.refl _, R.sg.trans g.h, g.h, fun _ _ _ h => h⟩
end
section
variable {X : Cx} {W : WX} {pos : Pos} {a b : Expr} {ta tb : AE} {va vb : AV}
theorem e_op {op : Operator} {r : R2} {β : D → D → (D → Prop) → Prop} (ho : OpR X (binaryOp op) r) (hb : B2 X.K r β) (ea : EX X W a ta) (eb : EX X W b tb) : EX X W (.BinOp a op b pos) (aOp β ta tb) := by
  obtain ⟨Ta, pa, ra⟩ := ea.ex
  obtain ⟨Tb, pb, rb⟩ := eb.ex
  refine ⟨_, pe_op ho pa pb, fun P G F ρ σ H Q Z Q' R h hz hq => ?_⟩
  refine ra P G F ρ σ H _ Z _ R h hz fun G1 ρ1 H1 v d R1 s1 rv h1 => ?_
  refine rb P G1 F ρ1 σ H1 _ Z _ R1 h1 (hz.mono s1) fun G2 ρ2 H2 u e R2 s2 ru h2 => ?_
  exact hb G2 H2 d e v u _ Q' R2.sg (rv.mono s2) ru h2 fun J' H' z w g rz q => hq J' ρ2 H' w z (R2.grow g) ((s1.trans s2).trans g.j) rz q
theorem v_op {op : Operator} {r : R2} {β : D → D → (D → Prop) → Prop} (ho : OpR X (binaryOp op) r) (hb : B2 X.K r β) (ea : VW X a va) (eb : VW X b vb) : VW X (.BinOp a op b pos) (vOp β va vb) := by
  obtain ⟨Ta, pa, ra⟩ := ea.ex
  obtain ⟨Tb, pb, rb⟩ := eb.ex
  refine ⟨_, pe_op ho pa pb, fun P G F ρ σ H Q Q' R h hq => ?_⟩
  refine ra P G F ρ σ H _ _ R h fun G1 H1 v d R1 s1 k1 rv h1 => ?_
  refine rb P G1 F ρ σ H1 _ _ R1 h1 fun G2 H2 u e R2 s2 k2 ru h2 => ?_
  exact hb H2 H2 d e v u _ Q' (Same.refl _) (rv.mono k2) ru h2 fun J' H' z w g rz q => hq G2 H' w z (R2.growV g) (s1.trans s2) ((k1.trans k2).trans g.h) (rz.mono g.jh) q
theorem e_cmp {op : CmpOp} {r : R2} {β : D → D → (D → Prop) → Prop} (ho : OpR X (compareOp op) r) (hb : B2 X.K r β) (ea : EX X W a ta) (eb : EX X W b tb) (hm : behindInMarks op b = false) : EX X W (.Compare a [op] [b] pos) (aOp β ta tb) := by
  obtain ⟨Ta, pa, ra⟩ := ea.ex
  obtain ⟨Tb, pb, rb⟩ := eb.ex
  refine ⟨_, pe_cmpR ho pa pb hm, fun P G F ρ σ H Q Z Q' R h hz hq => ?_⟩
  refine ra P G F ρ σ H _ Z _ R h hz fun G1 ρ1 H1 v d R1 s1 rv h1 => ?_
  refine rb P G1 F ρ1 σ H1 _ Z _ R1 h1 (hz.mono s1) fun G2 ρ2 H2 u e R2 s2 ru h2 => ?_
  exact hb G2 H2 d e v u _ Q' R2.sg (rv.mono s2) ru h2 fun J' H' z w g rz q => hq J' ρ2 H' w z (R2.grow g) ((s1.trans s2).trans g.j) rz q
theorem e_ix {r : R2} {β : D → D → (D → Prop) → Prop} (ho : IxR X r) (hb : B2 X.K r β) (ea : EX X W a ta) (eb : EX X W b tb) (hs : PlainIx b) : EX X W (.Subscript a b pos) (aOp β ta tb) := by
  obtain ⟨Ta, pa, ra⟩ := ea.ex
  obtain ⟨Tb, pb, rb⟩ := eb.ex
  refine ⟨_, pe_ix ho pa pb hs, fun P G F ρ σ H Q Z Q' R h hz hq => ?_⟩
  refine ra P G F ρ σ H _ Z _ R h hz fun G1 ρ1 H1 v d R1 s1 rv h1 => ?_
  refine rb P G1 F ρ1 σ H1 _ Z _ R1 h1 (hz.mono s1) fun G2 ρ2 H2 u e R2 s2 ru h2 => ?_
  exact hb G2 H2 d e v u _ Q' R2.sg (rv.mono s2) ru h2 fun J' H' z w g rz q => hq J' ρ2 H' w z (R2.grow g) ((s1.trans s2).trans g.j) rz q
theorem v_ix {r : R2} {β : D → D → (D → Prop) → Prop} (ho : IxR X r) (hb : B2 X.K r β) (ea : VW X a va) (eb : VW X b vb) (hs : PlainIx b) : VW X (.Subscript a b pos) (vOp β va vb) := by
  obtain ⟨Ta, pa, ra⟩ := ea.ex
  obtain ⟨Tb, pb, rb⟩ := eb.ex
  refine ⟨_, pe_ix ho pa pb hs, fun P G F ρ σ H Q Q' R h hq => ?_⟩
  refine ra P G F ρ σ H _ _ R h fun G1 H1 v d R1 s1 k1 rv h1 => ?_
  refine rb P G1 F ρ σ H1 _ _ R1 h1 fun G2 H2 u e R2 s2 k2 ru h2 => ?_
  exact hb H2 H2 d e v u _ Q' (Same.refl _) (rv.mono k2) ru h2 fun J' H' z w g rz q => hq G2 H' w z (R2.growV g) (s1.trans s2) ((k1.trans k2).trans g.h) (rz.mono g.jh) q
theorem e_un {op : UnaryOp} {r : V → Hp → VK → Prop} {β : D → (D → Prop) → Prop} (ho : UnR X (unaryOp op) r) (hb : B1 X.K r β) (ea : EX X W a ta) : EX X W (.UnaryOp op a pos) (aUn β ta) := by
  obtain ⟨Ta, pa, ra⟩ := ea.ex
  refine ⟨_, pe_un ho pa, fun P G F ρ σ H Q Z Q' R h hz hq => ?_⟩
  refine ra P G F ρ σ H _ Z _ R h hz fun G1 ρ1 H1 v d R1 s1 rv h1 => ?_
  exact hb G1 H1 d v _ Q' R1.sg rv h1 fun J' H' z w g rz q => hq J' ρ1 H' w z (R1.grow g) (s1.trans g.j) rz q
theorem v_un {op : UnaryOp} {r : V → Hp → VK → Prop} {β : D → (D → Prop) → Prop} (ho : UnR X (unaryOp op) r) (hb : B1 X.K r β) (ea : VW X a va) : VW X (.UnaryOp op a pos) (vUn β va) := by
  obtain ⟨Ta, pa, ra⟩ := ea.ex
  refine ⟨_, pe_un ho pa, fun P G F ρ σ H Q Q' R h hq => ?_⟩
  refine ra P G F ρ σ H _ _ R h fun G1 H1 v d R1 s1 k1 rv h1 => ?_
  exact hb H1 H1 d v _ Q' (Same.refl _) rv h1 fun J' H' z w g rz q => hq G1 H' w z (R1.growV g) s1 (k1.trans g.h) (rz.mono g.jh) q
/-! ### from views -/
def D.flat : D → Bool
  | .non | .bl _ | .int _ | .str _ => true
  | _ => false
theorem rp_flat {K : PySem.W.Frag} {G G' : Hp} {d : D} {v : V} (f : d.flat = true) (h : Rp K G d v) : Rp K G' d v := by
  cases d with
  | non => exact rp_non.mpr (rp_non.mp h)
  | bl b => exact rp_bl.mpr (rp_bl.mp h)
  | int i => exact rp_int.mpr (rp_int.mp h)
  | str x => exact rp_str.mpr (rp_str.mp h)
  | _ => cases f
def aFlat (t : AV) : AE := fun ρ Q _ => t ρ fun d => d.flat = true ∧ Q d ρ
theorem e_flat {e : Expr} {t : AV} (h : VW X e t) : EX X W e (aFlat t) := by
  obtain ⟨T, p, r⟩ := h.ex
  exact ⟨T, p, fun P G F ρ σ H Q Z Q' R h hz hq => r P G F ρ σ H _ _ R h fun G' H' v d R' s k rv ⟨f, q⟩ => hq G' ρ H' v d R' s (rp_flat f rv) q⟩
/-! ### tests -/
/-- a value's truth -/
def D.tru : D → Bool
  | .non => false
  | .bl b => b
  | .int i => i != 0
  | .str x => (x.length : Int) != 0
  | .lst xs => !xs.isEmpty
  | .tup xs => !xs.isEmpty
  | .dic => false
  | .obj _ _ _ => true
def D.truOk : D → Prop
  | .str x => x.length ≤ sizeLine
  | .obj _ _ _ => False
  | _ => True
theorem isEmpty_rpl {K : PySem.W.Frag} {G : Hp} {xs : List D} {vs : List V} (h : RpL K G xs vs) : xs.isEmpty = vs.isEmpty := by
  cases xs with
  | nil => rw [rpl_nil.mp h]; rfl
  | cons d ds => obtain ⟨v, r, rfl, _, _⟩ := rpl_cons.mp h; rfl
theorem tru_of {K : PySem.W.Frag} {J H : Hp} {d : D} {v : V} (s : Same J H) (h : Rp K J d v) (ok : d.truOk) : TruV K v H d.tru := by
  cases d with
  | non => rw [rp_non.mp h]; rfl
  | bl b => rw [rp_bl.mp h]; rfl
  | int i => rw [rp_int.mp h]; rfl
  | str x => rw [rp_str.mp h]; exact ⟨ok, rfl⟩
  | lst xs =>
    obtain ⟨a, vs, rfl, h2, h3⟩ := rp_lst.mp h
    exact .inl ⟨vs, s.seq h2, by show (!xs.isEmpty) = _; rw [isEmpty_rpl h3]⟩
  | tup xs =>
    obtain ⟨a, vs, rfl, h2, h3⟩ := rp_tup.mp h
    exact .inr (.inl ⟨vs, Same.seqT s h2, by show (!xs.isEmpty) = _; rw [isEmpty_rpl h3]⟩)
  | dic =>
    obtain ⟨a, rfl, h2⟩ := rp_dic.mp h
    exact .inr (.inr ⟨[], s _ _ h2, rfl⟩)
  | obj _ _ _ => exact ok.elim
def aTr (t : AE) : AT := fun ρ Q Z => t ρ (fun d ρ1 => d.truOk ∧ Q d.tru ρ1) Z
def vTr (t : AV) : AT := fun ρ Q _ => t ρ fun d => d.truOk ∧ Q d.tru ρ
/-- a comparison, a name, a call .. as a test -/
theorem t_cmp {op : CmpOp} {r : R2} {β : D → D → (D → Prop) → Prop} (ho : OpR X (compareOp op) r) (hb : B2 X.K r β) (ea : EX X W a ta) (eb : EX X W b tb) (hm : behindInMarks op b = false) : TX X W (.Compare a [op] [b] pos) (fun ρ Q Z => aOp β ta tb ρ (fun d ρ1 => ∃ k, d = .bl k ∧ Q k ρ1) Z) := by
  obtain ⟨Ta, pa, ra⟩ := ea.ex
  obtain ⟨Tb, pb, rb⟩ := eb.ex
  refine ⟨_, pt_cmpR ho pa pb hm, fun P G F ρ σ H Q Z Q' R h hz hq => ?_⟩
  refine ra P G F ρ σ H _ Z _ R h hz fun G1 ρ1 H1 v d R1 s1 rv h1 => ?_
  refine rb P G1 F ρ1 σ H1 _ Z _ R1 h1 (hz.mono s1) fun G2 ρ2 H2 u e R2 s2 ru h2 => ?_
  exact hb G2 H2 d e v u _ _ R2.sg (rv.mono s2) ru h2 fun J' H' z w g rz ⟨k, ez, q⟩ => by
    subst ez
    exact ⟨k, rp_bl.mp rz, hq J' ρ2 H' k (R2.grow g) ((s1.trans s2).trans g.j) q⟩
theorem t_cmpV {op : CmpOp} {r : R2} {β : D → D → (D → Prop) → Prop} (ho : OpR X (compareOp op) r) (hb : B2 X.K r β) (ea : VW X a va) (eb : VW X b vb) (hm : behindInMarks op b = false) : TX X W (.Compare a [op] [b] pos) (fun ρ Q Z => vOp β va vb ρ fun d => ∃ k, d = .bl k ∧ Q k ρ) := by
  obtain ⟨Ta, pa, ra⟩ := ea.ex
  obtain ⟨Tb, pb, rb⟩ := eb.ex
  refine ⟨_, pt_cmpR ho pa pb hm, fun P G F ρ σ H Q Z Q' R h hz hq => ?_⟩
  refine ra P G F ρ σ H _ _ R h fun G1 H1 v d R1 s1 k1 rv h1 => ?_
  refine rb P G1 F ρ σ H1 _ _ R1 h1 fun G2 H2 u e R2 s2 k2 ru h2 => ?_
  exact hb H2 H2 d e v u _ _ (Same.refl _) (rv.mono k2) ru h2 fun J' H' z w g rz ⟨k, ez, q⟩ => by
    subst ez
    exact ⟨k, rp_bl.mp rz, hq G2 ρ H' k (R2.growV g) (s1.trans s2) q⟩
theorem t_tru (ea : EX X W a ta) (he : ∀ whole, isTrue a X.env whole = (do let v ← whole; standAt a.pos; holding [v] (truthy v)) := by intro _; rfl) : TX X W a (aTr ta) := by
  obtain ⟨Ta, pa, ra⟩ := ea.ex
  refine ⟨_, pt_truth pa he, fun P G F ρ σ H Q Z Q' R h hz hq => ?_⟩
  refine ra P G F ρ σ H _ Z _ R h hz fun G1 ρ1 H1 v d R1 s1 rv ⟨h1, h2⟩ => ?_
  exact ⟨d.tru, tru_of R1.sg rv h1, hq G1 ρ1 H1 _ R1 s1 h2⟩
theorem t_truV (ea : VW X a va) (he : ∀ whole, isTrue a X.env whole = (do let v ← whole; standAt a.pos; holding [v] (truthy v)) := by intro _; rfl) : TX X W a (vTr va) := by
  obtain ⟨Ta, pa, ra⟩ := ea.ex
  refine ⟨_, pt_truth pa he, fun P G F ρ σ H Q Z Q' R h hz hq => ?_⟩
  refine ra P G F ρ σ H _ _ R h fun G1 H1 v d R1 s1 k1 rv ⟨h1, h2⟩ => ?_
  exact ⟨d.tru, tru_of (Same.refl _) rv h1, hq G1 ρ H1 _ R1 s1 h2⟩
def aNot (t : AT) : AT := fun ρ Q Z => t ρ (fun c ρ1 => Q (!c) ρ1) Z
theorem t_not {t : AT} (h : TX X W a t) : TX X W (.UnaryOp .Not a pos) (aNot t) := by
  obtain ⟨T, p, r⟩ := h.ex
  exact ⟨_, pt_not p, fun P G F ρ σ H Q Z Q' R h hz hq => r P G F ρ σ H _ Z _ R h hz fun G1 ρ1 H1 b R1 s1 q => hq G1 ρ1 H1 _ R1 s1 q⟩
def aAnd (t u : AT) : AT := fun ρ Q Z => t ρ (fun c ρ1 => if c = true then u ρ1 Q Z else Q false ρ1) Z
def aOr (t u : AT) : AT := fun ρ Q Z => t ρ (fun c ρ1 => if c = true then Q true ρ1 else u ρ1 Q Z) Z
variable {t u : AT} {rest : List Expr}
theorem tw_and1 (h : TX X W a t) : TWX X W (.BoolOp .And [a] pos) t := by
  obtain ⟨T, p, r⟩ := h.ex
  exact ⟨_, pw_and1 p, r⟩
theorem tw_or1 (h : TX X W a t) : TWX X W (.BoolOp .Or [a] pos) t := by
  obtain ⟨T, p, r⟩ := h.ex
  exact ⟨_, pw_or1 p, r⟩
theorem tw_and (h : TX X W a t) (k : TWX X W (.BoolOp .And (b :: rest) pos) u) : TWX X W (.BoolOp .And (a :: b :: rest) pos) (aAnd t u) := by
  obtain ⟨T, p, r⟩ := h.ex
  obtain ⟨U, p', r'⟩ := k.ex
  refine ⟨_, pw_and p p', fun P G F ρ σ H Q Z Q' R h hz hq => ?_⟩
  refine r P G F ρ σ H _ Z _ R h hz fun G1 ρ1 H1 c R1 s1 q => ?_
  cases c with
  | true => exact iteT (r' P G1 F ρ1 σ H1 Q Z Q' R1 (by rw [if_pos rfl] at q; exact q) (hz.mono s1) fun G2 ρ2 H2 c R2 s2 q => hq G2 ρ2 H2 c R2 (s1.trans s2) q)
  | false => exact iteF (hq G1 ρ1 H1 false R1 s1 (by rw [if_neg Bool.false_ne_true] at q; exact q))
theorem tw_or (h : TX X W a t) (k : TWX X W (.BoolOp .Or (b :: rest) pos) u) : TWX X W (.BoolOp .Or (a :: b :: rest) pos) (aOr t u) := by
  obtain ⟨T, p, r⟩ := h.ex
  obtain ⟨U, p', r'⟩ := k.ex
  refine ⟨_, pw_or p p', fun P G F ρ σ H Q Z Q' R h hz hq => ?_⟩
  refine r P G F ρ σ H _ Z _ R h hz fun G1 ρ1 H1 c R1 s1 q => ?_
  cases c with
  | true => exact iteT (hq G1 ρ1 H1 true R1 s1 (by rw [if_pos rfl] at q; exact q))
  | false => exact iteF (r' P G1 F ρ1 σ H1 Q Z Q' R1 (by rw [if_neg Bool.false_ne_true] at q; exact q) (hz.mono s1) fun G2 ρ2 H2 c R2 s2 q => hq G2 ρ2 H2 c R2 (s1.trans s2) q)
theorem tw (h : TWX X W a t) : TX X W a t := by
  obtain ⟨T, p, r⟩ := h.ex
  exact ⟨T, p.pt, r⟩
/-! ### and, or, not, if .. else as values -/
def aAndV (ta tb : AE) : AE := fun ρ Q Z => ta ρ (fun x ρ1 => x.truOk ∧ if x.tru = true then tb ρ1 Q Z else Q x ρ1) Z
def aOrV (ta tb : AE) : AE := fun ρ Q Z => ta ρ (fun x ρ1 => x.truOk ∧ if x.tru = true then Q x ρ1 else tb ρ1 Q Z) Z
def vAndV (ta tb : AV) : AV := fun ρ Q => ta ρ fun x => x.truOk ∧ if x.tru = true then tb ρ Q else Q x
def vOrV (ta tb : AV) : AV := fun ρ Q => ta ρ fun x => x.truOk ∧ if x.tru = true then Q x else tb ρ Q
theorem e_one {op} (h : EX X W a ta) : EX X W (.BoolOp op [a] pos) ta := by
  obtain ⟨T, p, r⟩ := h.ex
  exact ⟨T, pe_one p, r⟩
theorem e_and (h : EX X W a ta) (k : EX X W (.BoolOp .And (b :: rest) pos) tb) : EX X W (.BoolOp .And (a :: b :: rest) pos) (aAndV ta tb) := by
  obtain ⟨T, p, r⟩ := h.ex
  obtain ⟨U, p', r'⟩ := k.ex
  refine ⟨_, pe_andT p p', fun P G F ρ σ H Q Z Q' R h hz hq => ?_⟩
  refine r P G F ρ σ H _ Z _ R h hz fun G1 ρ1 H1 v d R1 s1 rv ⟨ok, q⟩ => ⟨d.tru, tru_of R1.sg rv ok, ?_⟩
  split
  · rename_i e
    rw [if_pos e] at q
    exact r' P G1 F ρ1 σ H1 Q Z Q' R1 q (hz.mono s1) fun G2 ρ2 H2 v d R2 s2 rv q => hq G2 ρ2 H2 v d R2 (s1.trans s2) rv q
  · rename_i e
    rw [if_neg e] at q
    exact hq G1 ρ1 H1 v d R1 s1 rv q
theorem e_or (h : EX X W a ta) (k : EX X W (.BoolOp .Or (b :: rest) pos) tb) : EX X W (.BoolOp .Or (a :: b :: rest) pos) (aOrV ta tb) := by
  obtain ⟨T, p, r⟩ := h.ex
  obtain ⟨U, p', r'⟩ := k.ex
  refine ⟨_, pe_orT p p', fun P G F ρ σ H Q Z Q' R h hz hq => ?_⟩
  refine r P G F ρ σ H _ Z _ R h hz fun G1 ρ1 H1 v d R1 s1 rv ⟨ok, q⟩ => ⟨d.tru, tru_of R1.sg rv ok, ?_⟩
  split
  · rename_i e
    rw [if_pos e] at q
    exact hq G1 ρ1 H1 v d R1 s1 rv q
  · rename_i e
    rw [if_neg e] at q
    exact r' P G1 F ρ1 σ H1 Q Z Q' R1 q (hz.mono s1) fun G2 ρ2 H2 v d R2 s2 rv q => hq G2 ρ2 H2 v d R2 (s1.trans s2) rv q
def bNot : D → (D → Prop) → Prop := fun x Q => x.truOk ∧ Q (.bl (!x.tru))
def aIfE (t : AT) (ta tb : AE) : AE := fun ρ Q Z => t ρ (fun c ρ1 => if c = true then ta ρ1 Q Z else tb ρ1 Q Z) Z
theorem e_if {c : Expr} (h : TX X W c t) (ea : EX X W a ta) (eb : EX X W b tb) : EX X W (.IfExp c a b pos) (aIfE t ta tb) := by
  obtain ⟨T, p, r⟩ := h.ex
  obtain ⟨Ta, pa, ra⟩ := ea.ex
  obtain ⟨Tb, pb, rb⟩ := eb.ex
  refine ⟨_, pe_ifExp p pa pb, fun P G F ρ σ H Q Z Q' R h hz hq => ?_⟩
  refine r P G F ρ σ H _ Z _ R h hz fun G1 ρ1 H1 c R1 s1 q => ?_
  cases c with
  | true => exact iteT (ra P G1 F ρ1 σ H1 Q Z Q' R1 (by rw [if_pos rfl] at q; exact q) (hz.mono s1) fun G2 ρ2 H2 v d R2 s2 rv q => hq G2 ρ2 H2 v d R2 (s1.trans s2) rv q)
  | false => exact iteF (rb P G1 F ρ1 σ H1 Q Z Q' R1 (by rw [if_neg Bool.false_ne_true] at q; exact q) (hz.mono s1) fun G2 ρ2 H2 v d R2 s2 rv q => hq G2 ρ2 H2 v d R2 (s1.trans s2) rv q)
/-! ### own lists -/
def aFrz (t : AO) : AE := fun ρ Q Z => t ρ (fun xs ρ1 => Q (.lst xs) ρ1) Z
/-- the list is from now on data -/
theorem Rel.keep {K : PySem.W.Frag} {P : List (Nat × Addr)} {G F : Hp} {ρ : List Sv} {σ : St} {H : Hp} {a : Addr} {o : HO} (R : Rel K P G F ρ σ H) (h2 : H a = some o) (h3 : G a = none) (h4 : F a = none)
    (hn : NoS ρ σ a) : Rel K P (upd G a o) F ρ σ H := by
  have sG : Same G (upd G a o) := same_new h3
  refine ⟨R.len, fun b u q => ?_, R.sf, fun b u q => ?_, fun j d q => ?_, fun j b ys q => ?_, R.ne, R.pin, R.pinc, R.tr.same sG fun j t b q hb => ?_⟩
  · by_cases hb : b = a
    · rw [hb, upd_same] at q; rw [hb, h2]; exact q
    · rw [upd_ne hb] at q; exact R.sg _ _ q
  · rw [upd_ne (ne_of_none q h4)]; exact R.gf b u q
  · obtain ⟨v, g1, g2⟩ := R.dat j d q
    exact ⟨v, g1, g2.mono sG⟩
  · obtain ⟨c, us, g1, g2, g3, g4, g5⟩ := R.own j b ys q
    refine ⟨c, us, g1, g2, ?_, g4, g5.mono sG⟩
    rw [upd_ne fun z => ?_]
    · exact g3
    · subst z
      exact hn.own j b ys q g1
  · obtain ⟨_, g2, g3⟩ := R.tr.ex q hb
    exact ⟨rfl, by rw [upd_ne fun z => hn.tre j t q (by rw [← z]; exact hb)]; exact g2, g3⟩
theorem e_frz {e : Expr} {t : AO} (h : EO X W e t) : EX X W e (aFrz t) := by
  obtain ⟨T, p, r⟩ := h.ex
  refine ⟨T, p, fun P G F ρ σ H Q Z Q' R h hz hq => r P G F ρ σ H _ Z _ R h hz fun G1 ρ1 H1 a vs xs R1 s1 h2 h3 h4 hn hr q => ?_⟩
  have sG : Same G1 (upd G1 a (.lst vs)) := same_new h3
  exact hq _ ρ1 H1 (.ref a) (.lst xs) (R1.keep h2 h3 h4 hn) (s1.trans sG) (rp_lst.mpr ⟨a, vs, rfl, SqL.of upd_same, hr.mono sG⟩) q
/-! ### argument lists -/
abbrev AA := List Sv → (List D → List Sv → Prop) → KX → Prop
abbrev VA := List Sv → (List D → Prop) → Prop
structure EXs (X : Cx) (W : WX) (es : List Expr) (t : AA) : Prop where
  ex : ∃ T : TA, PA X es T ∧ ∀ P G F ρ σ H (Q : List D → List Sv → Prop) (Z : KX) (Q' : List V → Hp → Prop), Rel X.K P G F ρ σ H → t ρ Q Z → XIn X W P G F σ Z →
    (∀ G' ρ' H' vs ds, Rel X.K P G' F ρ' σ H' → Same G G' → RpL X.K G' ds vs → Q ds ρ' → Q' vs H') → T σ H Q'
structure VWs (X : Cx) (es : List Expr) (t : VA) : Prop where
  ex : ∃ T : TA, PA X es T ∧ ∀ P G F ρ σ H (Q : List D → Prop) (Q' : List V → Hp → Prop), Rel X.K P G F ρ σ H → t ρ Q →
    (∀ G' H' vs ds, Rel X.K P G' F ρ σ H' → Same G G' → Same H H' → RpL X.K H' ds vs → Q ds → Q' vs H') → T σ H Q'
def aNil : AA := fun ρ Q _ => Q [] ρ
def vNil : VA := fun _ Q => Q []
def aCons (t : AE) (u : AA) : AA := fun ρ Q Z => t ρ (fun d ρ1 => u ρ1 (fun ds ρ2 => Q (d :: ds) ρ2) Z) Z
def vCons (t : AV) (u : VA) : VA := fun ρ Q => t ρ fun d => u ρ fun ds => Q (d :: ds)
theorem es_nil : EXs X W [] aNil := ⟨_, pa_nil, fun P G F ρ σ H Q Z Q' R h hz hq => hq G ρ H [] [] R (Same.refl _) RpL.nil h⟩
theorem vs_nil : VWs X [] vNil := ⟨_, pa_nil, fun P G F ρ σ H Q Q' R h hq => hq G H [] [] R (Same.refl _) (Same.refl _) RpL.nil h⟩
theorem es_cons {es : List Expr} {u : AA} (ea : EX X W a ta) (k : EXs X W es u) (hs : starEach (a :: es) X.env = (false, eval a X.env) :: starEach es X.env := by rfl) : EXs X W (a :: es) (aCons ta u) := by
  obtain ⟨T, p, r⟩ := ea.ex
  obtain ⟨U, p', r'⟩ := k.ex
  refine ⟨_, pa_cons p p' hs, fun P G F ρ σ H Q Z Q' R h hz hq => ?_⟩
  refine r P G F ρ σ H _ Z _ R h hz fun G1 ρ1 H1 v d R1 s1 rv q => ?_
  exact r' P G1 F ρ1 σ H1 _ Z _ R1 q (hz.mono s1) fun G2 ρ2 H2 vs ds R2 s2 rs q => hq G2 ρ2 H2 _ _ R2 (s1.trans s2) (RpL.cons (rv.mono s2) rs) q
theorem vs_cons {es : List Expr} {u : VA} (ea : VW X a va) (k : VWs X es u) (hs : starEach (a :: es) X.env = (false, eval a X.env) :: starEach es X.env := by rfl) : VWs X (a :: es) (vCons va u) := by
  obtain ⟨T, p, r⟩ := ea.ex
  obtain ⟨U, p', r'⟩ := k.ex
  refine ⟨_, pa_cons p p' hs, fun P G F ρ σ H Q Q' R h hq => ?_⟩
  refine r P G F ρ σ H _ _ R h fun G1 H1 v d R1 s1 k1 rv q => ?_
  exact r' P G1 F ρ σ H1 _ _ R1 q fun G2 H2 vs ds R2 s2 k2 rs q => hq G2 H2 _ _ R2 (s1.trans s2) (k1.trans k2) (RpL.cons (rv.mono k2) rs) q
/-! ### displays -/
def aTup (t : AA) : AE := fun ρ Q Z => t ρ (fun ds ρ1 => ds.length ≤ sizeLine ∧ Q (.tup ds) ρ1) Z
def vTup (t : VA) : AV := fun ρ Q => t ρ fun ds => ds.length ≤ sizeLine ∧ Q (.tup ds)
def oLst (t : AA) : AO := fun ρ Q Z => t ρ (fun ds ρ1 => ds.length ≤ sizeLine ∧ Q ds ρ1) Z
def vLst (t : VA) : AV := fun ρ Q => t ρ fun ds => ds.length ≤ sizeLine ∧ Q (.lst ds)
variable {es : List Expr} {u' : AA} {w' : VA}
theorem e_tup {x1} (h : EXs X W es u') : EX X W (.Tuple es x1 pos) (aTup u') := by
  obtain ⟨T, p, r⟩ := h.ex
  refine ⟨_, pe_tup p, fun P G F ρ σ H Q Z Q' R h hz hq => ?_⟩
  refine r P G F ρ σ H _ Z _ R h hz fun G1 ρ1 H1 vs ds R1 s1 rs ⟨hl, q⟩ => ⟨by rw [← rs.length]; exact hl, fun p hp => ?_⟩
  have g := Grow.new (o := .tup vs) R1.sg hp
  exact hq _ ρ1 _ (.ref p) (.tup ds) (R1.grow g) (s1.trans g.j) (rp_tup.mpr ⟨p, vs, rfl, SqT.of upd_same, rs.mono g.j⟩) q
theorem v_tup {x1} (h : VWs X es w') : VW X (.Tuple es x1 pos) (vTup w') := by
  obtain ⟨T, p, r⟩ := h.ex
  refine ⟨_, pe_tup p, fun P G F ρ σ H Q Q' R h hq => ?_⟩
  refine r P G F ρ σ H _ _ R h fun G1 H1 vs ds R1 s1 k1 rs ⟨hl, q⟩ => ⟨by rw [← rs.length]; exact hl, fun p hp => ?_⟩
  have g := Grow.new (o := .tup vs) (Same.refl H1) hp
  exact hq G1 _ (.ref p) (.tup ds) (R1.growV g) s1 (k1.trans g.h) (rp_tup.mpr ⟨p, vs, rfl, SqT.of upd_same, rs.mono g.h⟩) q
theorem not_own {K : PySem.W.Frag} {P : List (Nat × Addr)} {G F : Hp} {ρ : List Sv} {σ : St} {H : Hp} {p : Addr} (R : Rel K P G F ρ σ H) (hp : H p = none) : NoS ρ σ p where
  own := fun i b ys q e => by
    obtain ⟨a, us, g1, g2, _⟩ := R.own i b ys q
    rw [e] at g1
    cases g1
    rw [hp] at g2
    cases g2
  tre := fun i t q hb => by
    obtain ⟨⟨vs, g1⟩, _⟩ := R.tr.ex q hb
    rw [hp] at g1
    cases g1
theorem o_lst (h : EXs X W es u') : EO X W (.List es pos) (oLst u') := by
  obtain ⟨T, p, r⟩ := h.ex
  refine ⟨_, pe_lst p, fun P G F ρ σ H Q Z Q' R h hz hq => ?_⟩
  refine r P G F ρ σ H _ Z _ R h hz fun G1 ρ1 H1 vs ds R1 s1 rs ⟨hl, q⟩ => ⟨by rw [← rs.length]; exact hl, fun p hp => ?_⟩
  exact hq G1 ρ1 _ p vs ds (R1.alloc hp) s1 upd_same (R1.sg.free hp) (R1.sf.free hp) (not_own R1 hp) rs q
theorem v_lst (h : VWs X es w') : VW X (.List es pos) (vLst w') := by
  obtain ⟨T, p, r⟩ := h.ex
  refine ⟨_, pe_lst p, fun P G F ρ σ H Q Q' R h hq => ?_⟩
  refine r P G F ρ σ H _ _ R h fun G1 H1 vs ds R1 s1 k1 rs ⟨hl, q⟩ => ⟨by rw [← rs.length]; exact hl, fun p hp => ?_⟩
  have g := Grow.new (o := .lst vs) (Same.refl H1) hp
  exact hq G1 _ (.ref p) (.lst ds) (R1.growV g) s1 (k1.trans g.h) (rp_lst.mpr ⟨p, vs, rfl, SqL.of upd_same, rs.mono g.h⟩) q
/-! ### calls of built-ins -/
def aCall (β : List D → (D → Prop) → Prop) (t : AA) : AE := fun ρ Q Z => t ρ (fun ds ρ1 => β ds fun z => Q z ρ1) Z
def vCall (β : List D → (D → Prop) → Prop) (t : VA) : AV := fun ρ Q => t ρ fun ds => β ds Q
variable {x : Str} {p : Pos} {id T : String} {r : List V → Hp → VK → Prop} {β : List D → (D → Prop) → Prop}
theorem e_callB (hc : CallR X (.builtin id) r) (hb : BN X.K r β) (hg : Gl X x) (hm : X.mg x = none) (hv : bootBuiltins x = some (.builtin id)) (ha : EXs X W (a :: es) u') (hn : x ≠ "__name__" := by decide) (hdb : (x == ("__debug__" : Str)) = false := by decide)
    (he : starEach (a :: es) X.env = (false, eval a X.env) :: starEach es X.env := by rfl) (hpl : (backTo pos (starEach es X.env)).any (·.1) = false := by rfl) : EX X W (.Call (.Name x p) (a :: es) [] pos) (aCall β u') := by
  obtain ⟨T, p, r⟩ := ha.ex
  refine ⟨_, pe_callB hc hg hm hv p hn hdb he hpl, fun P G F ρ σ H Q Z Q' R h hz hq => ?_⟩
  refine r P G F ρ σ H _ Z _ R h hz fun G1 ρ1 H1 vs ds R1 s1 rs q => ?_
  exact hb G1 H1 ds vs _ Q' R1.sg rs q fun J' H' z w g rz q => hq J' ρ1 H' w z (R1.grow g) (s1.trans g.j) rz q
theorem e_callT (hc : CallR X (.type T) r) (hb : BN X.K r β) (hg : Gl X x) (hm : X.mg x = none) (hv : bootBuiltins x = some (.type T)) (ha : EXs X W (a :: es) u') (hn : x ≠ "__name__" := by decide) (hdb : (x == ("__debug__" : Str)) = false := by decide)
    (he : starEach (a :: es) X.env = (false, eval a X.env) :: starEach es X.env := by rfl) (hpl : (backTo pos (starEach es X.env)).any (·.1) = false := by rfl) : EX X W (.Call (.Name x p) (a :: es) [] pos) (aCall β u') := by
  obtain ⟨T, p, r⟩ := ha.ex
  refine ⟨_, pe_callTy hc hg hm hv p hn hdb he hpl, fun P G F ρ σ H Q Z Q' R h hz hq => ?_⟩
  refine r P G F ρ σ H _ Z _ R h hz fun G1 ρ1 H1 vs ds R1 s1 rs q => ?_
  exact hb G1 H1 ds vs _ Q' R1.sg rs q fun J' H' z w g rz q => hq J' ρ1 H' w z (R1.grow g) (s1.trans g.j) rz q
theorem v_callB (hc : CallR X (.builtin id) r) (hb : BN X.K r β) (hg : Gl X x) (hm : X.mg x = none) (hv : bootBuiltins x = some (.builtin id)) (ha : VWs X (a :: es) w') (hn : x ≠ "__name__" := by decide) (hdb : (x == ("__debug__" : Str)) = false := by decide)
    (he : starEach (a :: es) X.env = (false, eval a X.env) :: starEach es X.env := by rfl) (hpl : (backTo pos (starEach es X.env)).any (·.1) = false := by rfl) : VW X (.Call (.Name x p) (a :: es) [] pos) (vCall β w') := by
  obtain ⟨T, p, r⟩ := ha.ex
  refine ⟨_, pe_callB hc hg hm hv p hn hdb he hpl, fun P G F ρ σ H Q Q' R h hq => ?_⟩
  refine r P G F ρ σ H _ _ R h fun G1 H1 vs ds R1 s1 k1 rs q => ?_
  exact hb H1 H1 ds vs _ Q' (Same.refl _) rs q fun J' H' z w g rz q => hq G1 H' w z (R1.growV g) s1 (k1.trans g.h) (rz.mono g.jh) q
end
end VS
/-! VSc: the operations on data. -/
namespace VS
open PySem PySem.Spec PyProof.Rows L2
section
variable {K : PySem.W.Frag} {X : Cx}
theorem rp_i {G : Hp} (i : Int) : Rp K G (.int i) (.int i) := rp_int.mpr rfl
theorem rp_b {G : Hp} (b : Bool) : Rp K G (.bl b) (.bl b) := rp_bl.mpr rfl
theorem rp_s {G : Hp} (x : Str) : Rp K G (.str x) (.str x) := rp_str.mpr rfl
/-! ### arithmetic -/
def bI (C : Int → Int → Prop) (g : Int → Int → D) : D → D → (D → Prop) → Prop
  | .int i, .int j, Q => C i j ∧ Q (g i j)
  | _, _, _ => False
theorem bI_iff {C : Int → Int → Prop} {g : Int → Int → D} {x y : D} {Q : D → Prop} (h : bI C g x y Q) : ∃ i j, x = .int i ∧ y = .int j ∧ C i j ∧ Q (g i j) := by
  cases x <;> cases y <;> first | exact ⟨_, _, rfl, rfl, h.1, h.2⟩ | exact h.elim
theorem b2_int {C : Int → Int → Prop} {g : Int → Int → V} {g' : Int → Int → D} (hg : ∀ G i j, Rp K G (g' i j) (g i j)) : B2 K (rI C g) (bI C g') := fun J H d e v u Q Q' s rv ru h hq => by
  obtain ⟨i, j, rfl, rfl, hc, q⟩ := bI_iff h
  exact ⟨i, j, rp_int.mp rv, rp_int.mp ru, hc, hq J H _ _ (Grow.refl s) (hg J i j) q⟩
theorem b2_int0 {g : Int → Int → V} {g' : Int → Int → D} (hg : ∀ G i j, Rp K G (g' i j) (g i j)) : B2 K (rI0 g) (bI (fun _ _ => True) g') := fun J H d e v u Q Q' s rv ru h hq => by
  obtain ⟨i, j, rfl, rfl, _, q⟩ := bI_iff h
  exact ⟨i, j, rp_int.mp rv, rp_int.mp ru, hq J H _ _ (Grow.refl s) (hg J i j) q⟩
/-- list + list, whatever the lists -/
def rCatS (K : PySem.W.Frag) : R2 := fun x y H Q => ∃ l b xs zs, x = .ref l ∧ y = .ref b ∧ SqL K H l xs ∧ SqL K H b zs ∧ xs.length + zs.length ≤ sizeLine ∧ ∀ p, H p = none → Q (.ref p) (upd H p (.lst (xs ++ zs)))
theorem op_catS : OpR X (binaryOp .Add) (rCatS X.K) := by
  intro pins s σ H x y v u Q I rx ry ⟨l, b, xs, zs, ex, ey, hL, hB, hz, q⟩
  subst ex ey
  cases rx
  cases ry
  obtain ⟨is1, r1, ⟨⟨c1, d1, t1, sl1⟩, n1, g1, k1, e1, f1⟩, z1⟩ := I.list hL
  obtain ⟨is2, r2, ⟨⟨c2, d2, t2, sl2⟩, n2, g2, k2, e2, f2⟩, z2⟩ := I.list hB
  simp only at k1 e1 f1 k2 e2 f2
  subst k1 e1 f1 k2 e2 f2
  have m1 := r1.length
  have m2 := r2.length
  have hsz : is1.toArray.size + is2.toArray.size ≤ sizeLine := by simp only [List.size_toArray]; omega
  refine concat_meets ⟨_, g1, rfl⟩ ⟨_, g2, rfl⟩ noFill_list_add seq_list_add PySem.F.slot_list_add PySem.F.entry_list_add (PySem.F.args_list_add_2 _ _) (list_addW l b _ _ n1 n2 none none sl1 sl2 hsz) ⟨g1, g2, ?_⟩
  have ea : is1.toArray ++ is2.toArray = (is1 ++ is2).toArray := by simp
  rw [ea]
  exact ⟨.ref _, _, I.lnew (t' := s.toks) (r1.append r2) (by simp only [List.length_append]; omega), rfl, q _ I.fresh⟩
/-- a + b: ints, texts, lists -/
def bAdd : D → D → (D → Prop) → Prop
  | .int i, .int j, Q => Q (.int (i + j))
  | .str x, .str y, Q => x.length + y.length ≤ sizeLine ∧ Q (.str (x ++ y))
  | .lst xs, .lst ys, Q => xs.length + ys.length ≤ sizeLine ∧ Q (.lst (xs ++ ys))
  | _, _, _ => False
def rAdd3 (K : PySem.W.Frag) : R2 := fun x y H Q => (rI0 (fun i j => .int (i + j)) x y H Q ∨ (∃ i j, x = .str i ∧ y = .str j ∧ i.length + j.length ≤ sizeLine ∧ Q (.str (i ++ j)) H)) ∨ rCatS K x y H Q
theorem op_addA : OpR X (binaryOp .Add) (rAdd3 X.K) := OpR.or (OpR.or op_add op_add_str) op_catS
theorem b2_add : B2 K (rAdd3 K) bAdd := fun J H d e v u Q Q' s rv ru h hq => by
  cases d <;> cases e <;> first
    | exact h.elim
    | exact .inl (.inl ⟨_, _, rp_int.mp rv, rp_int.mp ru, hq J H _ _ (Grow.refl s) (rp_i _) h⟩)
    | exact .inl (.inr ⟨_, _, rp_str.mp rv, rp_str.mp ru, h.1, hq J H _ _ (Grow.refl s) (rp_s _) h.2⟩)
    | skip
  obtain ⟨a, vs, rfl, h2, h3⟩ := rp_lst.mp rv
  obtain ⟨b, us, rfl, g2, g3⟩ := rp_lst.mp ru
  refine .inr ⟨a, b, vs, us, rfl, rfl, s.seq h2, s.seq g2, by rw [← h3.length, ← g3.length]; exact h.1, fun p hp => ?_⟩
  have g := Grow.new (o := .lst (vs ++ us)) s hp
  exact hq _ _ _ _ g (rp_lst.mpr ⟨p, _, rfl, SqL.of upd_same, (h3.append g3).mono g.j⟩) h.2
def bSub : D → D → (D → Prop) → Prop := bI (fun _ _ => True) fun i j => .int (i - j)
theorem b2_sub : B2 K (rI0 fun i j => .int (i - j)) bSub := b2_int0 fun _ _ _ => rp_i _
/-- a factor is short, or both together are not long -/
def CMulA (i j : Int) : Prop := CMul i j ∨ CMulX i j
theorem op_mulA : OpR X (binaryOp .Mult) (rI CMulA fun i j => .int (i * j)) := opI fun _ _ _ _ _ _ _ hc q => mul_int q (Or.elim hc CMul.ok CMulX.ok)
def bMul : D → D → (D → Prop) → Prop := bI CMulA fun i j => .int (i * j)
def bDiv : D → D → (D → Prop) → Prop := bI CDivW fun i j => .int (i / j)
theorem b2_div : B2 K (rI CDivW fun i j => .int (i / j)) bDiv := b2_int fun _ _ _ => rp_i _
def bMod : D → D → (D → Prop) → Prop := bI (fun _ j => 0 < j) fun i j => .int (i % j)
theorem b2_mod : B2 K (rI (fun _ j => 0 < j) fun i j => .int (i % j)) bMod := b2_int fun _ _ _ => rp_i _
def bPow : D → D → (D → Prop) → Prop := bI CPow fun i j => .int (i ^ j.toNat)
theorem b2_pow : B2 K (rI CPow fun i j => .int (i ^ j.toNat)) bPow := b2_int fun _ _ _ => rp_i _
def bNeg : D → (D → Prop) → Prop
  | .int i, Q => Q (.int (-i))
  | _, _ => False
theorem b1_neg : B1 K (rU fun i => .int (-i)) bNeg := fun J H d v Q Q' s rv h hq => by
  cases d <;> first | exact ⟨_, rp_int.mp rv, hq J H _ _ (Grow.refl s) (rp_i _) h⟩ | exact h.elim
/-! ### comparisons -/
/-- < and so on of ints and of texts -/
def bOrd (f : Int → Int → Bool) (g : List Nat → List Nat → Bool) : D → D → (D → Prop) → Prop
  | .int i, .int j, Q => Q (.bl (f i j))
  | .str x, .str y, Q => Q (.bl (g x.cps.toList y.cps.toList))
  | _, _, _ => False
def rOrd (f : Int → Int → Bool) (g : List Nat → List Nat → Bool) : R2 := fun x y H Q => rI0 (fun i j => .bl (f i j)) x y H Q ∨ ∃ i j, x = .str i ∧ y = .str j ∧ Q (.bl (g i.cps.toList j.cps.toList)) H
theorem b2_ord {f : Int → Int → Bool} {g : List Nat → List Nat → Bool} : B2 K (rOrd f g) (bOrd f g) := fun J H d e v u Q Q' s rv ru h hq => by
  cases d <;> cases e <;> first
    | exact h.elim
    | exact .inl ⟨_, _, rp_int.mp rv, rp_int.mp ru, hq J H _ _ (Grow.refl s) (rp_b _) h⟩
    | exact .inr ⟨_, _, rp_str.mp rv, rp_str.mp ru, hq J H _ _ (Grow.refl s) (rp_b _) h⟩
abbrev bLt := bOrd (fun i j => decide (i < j)) fun x y => decide (x < y)
abbrev bLe := bOrd (fun i j => decide (i ≤ j)) fun x y => !decide (y < x)
abbrev bGt := bOrd (fun i j => decide (j < i)) fun x y => decide (y < x)
theorem op_ltA : OpR X (compareOp .Lt) (rOrd (fun i j => decide (i < j)) fun x y => decide (x < y)) := OpR.or op_lt op_lt_str
theorem op_leA : OpR X (compareOp .LtE) (rOrd (fun i j => decide (i ≤ j)) fun x y => !decide (y < x)) := OpR.or op_le op_le_str
theorem op_gtA : OpR X (compareOp .Gt) (rOrd (fun i j => decide (j < i)) fun x y => decide (y < x)) := OpR.or op_gt op_gt_str
/-- is None, is not None -/
def D.isN : D → Bool
  | .non => true
  | _ => false
def bIsN : D → D → (D → Prop) → Prop := fun x y Q => y = .non ∧ Q (.bl x.isN)
def bNotN : D → D → (D → Prop) → Prop := fun x y Q => y = .non ∧ Q (.bl (!x.isN))
theorem isN_of {J : Hp} {d : D} {v : V} (h : Rp K J d v) : decide (v = .non) = d.isN := by
  cases d with
  | non => rw [rp_non.mp h]; rfl
  | bl b => rw [rp_bl.mp h]; rfl
  | int i => rw [rp_int.mp h]; rfl
  | str x => rw [rp_str.mp h]; rfl
  | lst xs => obtain ⟨a, vs, rfl, _⟩ := rp_lst.mp h; rfl
  | tup xs => obtain ⟨a, vs, rfl, _⟩ := rp_tup.mp h; rfl
  | dic => obtain ⟨a, rfl, _⟩ := rp_dic.mp h; rfl
  | obj C ns xs => obtain ⟨A, a, vs, _, rfl, _⟩ := rp_objA.mp h; rfl
theorem b2_isN : B2 K (fun x y H Q => y = .non ∧ Q (.bl (decide (x = .non))) H) bIsN := fun J H d e v u Q Q' s rv ru h hq => by
  obtain ⟨rfl, q⟩ := h
  exact ⟨rp_non.mp ru, by rw [isN_of rv]; exact hq J H _ _ (Grow.refl s) (rp_b _) q⟩
theorem b2_notN : B2 K (fun x y H Q => y = .non ∧ Q (.bl (!decide (x = .non))) H) bNotN := fun J H d e v u Q Q' s rv ru h hq => by
  obtain ⟨rfl, q⟩ := h
  exact ⟨rp_non.mp ru, by rw [isN_of rv]; exact hq J H _ _ (Grow.refl s) (rp_b _) q⟩
/-! ### data as the model's plain data -/
mutual
def D.py : D → PyData
  | .non => .none
  | .bl b => .bool b
  | .int i => .int i
  | .str x => .str x
  | .lst xs => .list (D.pyL xs)
  | .tup xs => .tuple (D.pyL xs)
  | .dic => .dict []
  | .obj _ _ _ => .none
def D.pyL : List D → List PyData
  | [] => []
  | d :: ds => d.py :: D.pyL ds
end
mutual
/-- no objects, (nd) no dicts -/
def D.pl (nd : Bool) : D → Bool
  | .obj _ _ _ => false
  | .dic => !nd
  | .lst xs => D.plL nd xs
  | .tup xs => D.plL nd xs
  | .non | .bl _ | .int _ | .str _ => true
def D.plL (nd : Bool) : List D → Bool
  | [] => true
  | d :: ds => d.pl nd && D.plL nd ds
end
mutual
theorem dp_of {H : Hp} : ∀ {d : D} {v : V}, Rp K H d v → d.pl true = true → Dp K H v d.py
  | .non, _, h, _ => by rw [rp_non.mp h]; simp only [D.py]; exact .non
  | .bl b, _, h, _ => by rw [rp_bl.mp h]; simp only [D.py]; exact .bl b
  | .int i, _, h, _ => by rw [rp_int.mp h]; simp only [D.py]; exact .int i
  | .str x, _, h, _ => by rw [rp_str.mp h]; simp only [D.py]; exact .str x
  | .lst xs, _, h, p => by
    obtain ⟨a, vs, rfl, h2, h3⟩ := rp_lst.mp h
    simp only [D.py]
    exact .lst h2 (dp_ofL h3 (by simpa only [D.pl] using p))
  | .tup xs, _, h, p => by
    obtain ⟨a, vs, rfl, h2, h3⟩ := rp_tup.mp h
    simp only [D.py]
    exact .tup h2 (dp_ofL h3 (by simpa only [D.pl] using p))
  | .dic, _, _, p => by simp [D.pl] at p
  | .obj _ _ _, _, _, p => by simp [D.pl] at p
theorem dp_ofL {H : Hp} : ∀ {ds : List D} {vs : List V}, RpL K H ds vs → D.plL true ds = true → DpAll K H vs (D.pyL ds)
  | [], _, h, _ => by rw [rpl_nil.mp h]; simp only [D.pyL]; exact .nil
  | d :: ds, _, h, p => by
    obtain ⟨v, r, rfl, h2, h3⟩ := rpl_cons.mp h
    simp only [D.plL, Bool.and_eq_true] at p
    simp only [D.pyL]
    exact .cons (dp_of h2 p.1) (dp_ofL h3 p.2)
end
/-- == and != -/
def D.eqOk (d : D) : Prop := d.pl true = true ∧ SeqAt.shaped d.py = true
def D.isS : D → Bool
  | .str _ => true
  | _ => false
/-- both can be compared: two texts of any signs, or data of the usual signs -/
def eqOk2 (x y : D) : Prop := (x.eqOk ∧ y.eqOk) ∨ (x.isS = true ∧ y.isS = true)
def bEq : D → D → (D → Prop) → Prop := fun x y Q => eqOk2 x y ∧ Q (.bl (PyData.eqv x.py y.py))
def bNe : D → D → (D → Prop) → Prop := fun x y Q => eqOk2 x y ∧ Q (.bl (!PyData.eqv x.py y.py))
def rEqS (K : PySem.W.Frag) : R2 := fun x y H Q => rEq x y H Q ∨ rEqD K x y H Q
def rNeS (K : PySem.W.Frag) : R2 := fun x y H Q => rNe x y H Q ∨ rNeD K x y H Q
theorem op_eqS (hu : X.A.units + 64 < cLine) : OpR X (compareOp .Eq) (rEqS X.K) := OpR.or op_eq (op_eqD hu)
theorem op_neS (hu : X.A.units + 64 < cLine) : OpR X (compareOp .NotEq) (rNeS X.K) := OpR.or op_ne (op_neD hu)
theorem isS_str {d : D} (h : d.isS = true) : ∃ x, d = .str x := by cases d <;> first | exact ⟨_, rfl⟩ | cases h
theorem dec_strD {x y : Str} : decide (V.str x = V.str y) = PyData.eqv (D.str x).py (D.str y).py := by
  simp only [D.py, PyData.eqv]
  by_cases h : x = y
  · subst h; rw [beq_self_eq_true]; exact decide_eq_true rfl
  · rw [beq_eq_false_iff_ne.mpr h]; exact decide_eq_false fun e => h (by injection e)
theorem b2_eq : B2 K (rEqS K) bEq := fun J H d e v u Q Q' s rv ru h hq => by
  obtain ⟨⟨⟨h1, h2⟩, ⟨h3, h4⟩⟩ | ⟨h1, h2⟩, q⟩ := h
  · exact .inr ⟨d.py, e.py, dp_of (rv.mono s) h1, dp_of (ru.mono s) h3, h2, h4, hq J H _ _ (Grow.refl s) (rp_b _) q⟩
  · obtain ⟨x, rfl⟩ := isS_str h1
    obtain ⟨y, rfl⟩ := isS_str h2
    rw [rp_str.mp rv, rp_str.mp ru]
    exact .inl ⟨rfl, by rw [dec_strD]; exact hq J H _ _ (Grow.refl s) (rp_b _) q⟩
theorem b2_ne : B2 K (rNeS K) bNe := fun J H d e v u Q Q' s rv ru h hq => by
  obtain ⟨⟨⟨h1, h2⟩, ⟨h3, h4⟩⟩ | ⟨h1, h2⟩, q⟩ := h
  · exact .inr ⟨d.py, e.py, dp_of (rv.mono s) h1, dp_of (ru.mono s) h3, h2, h4, hq J H _ _ (Grow.refl s) (rp_b _) q⟩
  · obtain ⟨x, rfl⟩ := isS_str h1
    obtain ⟨y, rfl⟩ := isS_str h2
    rw [rp_str.mp rv, rp_str.mp ru]
    exact .inl ⟨rfl, by rw [dec_strD]; exact hq J H _ _ (Grow.refl s) (rp_b _) q⟩
end
end VS
/-! VSd: subscripts, slices, membership, built-ins. -/
namespace VS
open PySem PySem.Spec PyProof.Rows L2
section
variable {K : PySem.W.Frag} {X : Cx}
/-! ### subscripts -/
theorem atI_rpl {G : Hp} {xs : List D} {vs : List V} {i : Int} {d : D} (h : RpL K G xs vs) (e : atI xs i = some d) : ∃ v, atI vs i = some v ∧ Rp K G d v := by
  unfold atI at *
  rw [← h.length]
  cases q : ixN xs.length i with
  | none => rw [q] at e; simp at e
  | some j =>
    rw [q] at e
    obtain ⟨v, h1, h2⟩ := h.get (i := j) (d := d) (by simpa using e)
    exact ⟨v, by simpa using h1, h2⟩
def bIx : D → D → (D → Prop) → Prop
  | .lst xs, .int i, Q => ∃ d, atI xs i = some d ∧ Q d
  | .tup xs, .int i, Q => ∃ d, atI xs i = some d ∧ Q d
  | .str x, .int i, Q => x.length ≤ sizeLine ∧ ∃ c, atI x.cps.toList i = some c ∧ Q (.str ⟨#[c]⟩)
  | _, _, _ => False
theorem b2_ix : B2 K (rIx K) bIx := fun J H d e v u Q Q' s rv ru h hq => by
  cases d <;> cases e <;> first | exact h.elim | skip
  · obtain ⟨h0, c, h1, h2⟩ := h
    exact .inr (.inr ⟨_, _, c, rp_str.mp rv, rp_int.mp ru, h0, h1, hq J H _ _ (Grow.refl s) (rp_s _) h2⟩)
  · obtain ⟨c, h1, h2⟩ := h
    obtain ⟨a, vs, rfl, g2, g3⟩ := rp_lst.mp rv
    obtain ⟨w, k1, k2⟩ := atI_rpl g3 h1
    exact .inl ⟨a, vs, _, w, rfl, rp_int.mp ru, s.seq g2, k1, hq J H _ _ (Grow.refl s) k2 h2⟩
  · obtain ⟨c, h1, h2⟩ := h
    obtain ⟨a, vs, rfl, g2, g3⟩ := rp_tup.mp rv
    obtain ⟨w, k1, k2⟩ := atI_rpl g3 h1
    exact .inr (.inl ⟨a, vs, _, w, rfl, rp_int.mp ru, Same.seqT s g2, k1, hq J H _ _ (Grow.refl s) k2 h2⟩)
end
section
variable {X : Cx} {W : WX} {pos p2 : Pos} {a b : Expr}
/-! ### slices -/
abbrev AP := List Sv → (Option Int → List Sv → Prop) → KX → Prop
structure PX (X : Cx) (W : WX) (e : Option Expr) (t : AP) : Prop where
  ex : ∃ T : TO, PO X e T ∧ ∀ P G F ρ σ H (Q : Option Int → List Sv → Prop) (Z : KX) (Q' : Option Int → Hp → Prop), Rel X.K P G F ρ σ H → t ρ Q Z → XIn X W P G F σ Z →
    (∀ G' ρ' H' i, Rel X.K P G' F ρ' σ H' → Same G G' → Q i ρ' → Q' i H') → T σ H Q'
def aNoP : AP := fun ρ Q _ => Q none ρ
def aPart (t : AE) : AP := fun ρ Q Z => t ρ (fun d ρ1 => ∃ i, d = .int i ∧ Q (some i) ρ1) Z
theorem px_no : PX X W none aNoP := ⟨_, po_none, fun P G F ρ σ H Q Z Q' R h _ hq => hq G ρ H _ R (Same.refl _) h⟩
theorem px_some {t : AE} (h : EX X W a t) : PX X W (some a) (aPart t) := by
  obtain ⟨T, p, r⟩ := h.ex
  refine ⟨_, po_some p, fun P G F ρ σ H Q Z Q' R h hz hq => r P G F ρ σ H _ Z _ R h hz fun G1 ρ1 H1 v d R1 s1 rv ⟨i, e, q⟩ => ?_⟩
  subst e
  exact ⟨i, rp_int.mp rv, hq G1 ρ1 H1 _ R1 s1 q⟩
/-- the part of a list -/
def cutD (xs : List D) (lo hi : Option Int) : List D := (xs.drop (HT.sIx xs.length 0 lo)).take (HT.sIx xs.length xs.length hi - HT.sIx xs.length 0 lo)
theorem cut_rpl {K : PySem.W.Frag} {G : Hp} {xs : List D} {vs : List V} (h : RpL K G xs vs) (lo hi : Option Int) : RpL K G (cutD xs lo hi) (cutV vs lo hi) := by
  unfold cutD cutV
  rw [← h.length]
  exact (h.drop _).take _
def oSl (te : AE) (tl th : AP) : AO := fun ρ Q Z => te ρ (fun d ρ1 => tl ρ1 (fun l ρ2 => th ρ2 (fun u ρ3 => ∃ xs, d = .lst xs ∧ Q (cutD xs l u) ρ3) Z) Z) Z
/-- .. of a tuple (not the whole), a text, a list that is data -/
def aSl (te : AE) (tl th : AP) : AE := fun ρ Q Z => te ρ (fun d ρ1 => tl ρ1 (fun l ρ2 => th ρ2 (fun u ρ3 => match d with
  | .str x => x.length ≤ sizeLine ∧ Q (.str (cutS x l u)) ρ3
  | .lst xs => Q (.lst (cutD xs l u)) ρ3
  | .tup xs => ¬ (HT.sIx xs.length 0 l = 0 ∧ HT.sIx xs.length xs.length u = xs.length) ∧ Q (.tup (cutD xs l u)) ρ3
  | _ => False) Z) Z) Z
theorem e_slice {lo hi : Option Expr} {te : AE} {tl th : AP} (he : EX X W a te) (hl : PX X W lo tl) (hu : PX X W hi th) : EX X W (.Subscript a (.Slice lo hi none p2) pos) (aSl te tl th) := by
  obtain ⟨T, p, r⟩ := he.ex
  obtain ⟨T1, p1, r1⟩ := hl.ex
  obtain ⟨T2, p2, r2⟩ := hu.ex
  refine ⟨_, pe_slice (SlR.or sl_list (SlR.or sl_tup sl_str)) p p1 p2, fun P G F ρ σ H Q Z Q' R h hz hq => ?_⟩
  refine r P G F ρ σ H _ Z _ R h hz fun G1 ρ1 H1 v d R1 s1 rv q1 => ?_
  refine r1 P G1 F ρ1 σ H1 _ Z _ R1 q1 (hz.mono s1) fun G2 ρ2 H2 l R2 s2 q2 => ?_
  refine r2 P G2 F ρ2 σ H2 _ Z _ R2 q2 (hz.mono (s1.trans s2)) fun G3 ρ3 H3 u R3 s3 q3 => ?_
  have rv := rv.mono (s2.trans s3)
  have s' := (s1.trans s2).trans s3
  cases d <;> first | exact q3.elim | skip
  · exact .inr (.inr ⟨_, rp_str.mp rv, q3.1, hq G3 ρ3 H3 _ _ R3 s' (rp_s _) q3.2⟩)
  · obtain ⟨b, vs, rfl, g2, g3⟩ := rp_lst.mp rv
    refine .inl ⟨b, vs, rfl, R3.sg.seq g2, fun p hp => ?_⟩
    have g := Grow.new (o := .lst (cutV vs l u)) R3.sg hp
    exact hq _ ρ3 _ _ _ (R3.grow g) (s'.trans g.j) (rp_lst.mpr ⟨p, _, rfl, SqL.of upd_same, (cut_rpl g3 l u).mono g.j⟩) q3
  · obtain ⟨b, vs, rfl, g2, g3⟩ := rp_tup.mp rv
    refine .inr (.inl ⟨b, vs, rfl, Same.seqT R3.sg g2, by rw [← g3.length]; exact q3.1, fun p hp => ?_⟩)
    have g := Grow.new (o := .tup (cutV vs l u)) R3.sg hp
    exact hq _ ρ3 _ _ _ (R3.grow g) (s'.trans g.j) (rp_tup.mpr ⟨p, _, rfl, SqT.of upd_same, (cut_rpl g3 l u).mono g.j⟩) q3.2
/-! ### in, not in -/
def D.eqF : D → D → Bool
  | .non, .non => true
  | .bl a, .bl b => a == b
  | .bl a, .int b => (if a then 1 else 0) == b
  | .int a, .bl b => a == (if b then 1 else 0)
  | .int a, .int b => a == b
  | .str a, .str b => a == b
  | _, _ => false
def bIn (neg : Bool) : D → D → (D → Prop) → Prop
  | x, .lst ys, Q => x.flat = true ∧ ys.all D.flat = true ∧ Q (.bl (if neg then !(ys.any fun y => D.eqF y x) else ys.any fun y => D.eqF y x))
  | x, .tup ys, Q => x.flat = true ∧ ys.all D.flat = true ∧ Q (.bl (if neg then !(ys.any fun y => D.eqF y x) else ys.any fun y => D.eqF y x))
  | .str i, .str j, Q => Q (.bl (if neg then !(!(Builtin.Str.occurrences j i 0 j.length 1).isEmpty) else !(Builtin.Str.occurrences j i 0 j.length 1).isEmpty))
  | _, _, _ => False
theorem bIn_lst {neg : Bool} {d : D} {ys : List D} {Q : D → Prop} (h : bIn neg d (.lst ys) Q) : d.flat = true ∧ ys.all D.flat = true ∧ Q (.bl (if neg then !(ys.any fun y => D.eqF y d) else ys.any fun y => D.eqF y d)) := by cases d <;> exact h
theorem bIn_tup {neg : Bool} {d : D} {ys : List D} {Q : D → Prop} (h : bIn neg d (.tup ys) Q) : d.flat = true ∧ ys.all D.flat = true ∧ Q (.bl (if neg then !(ys.any fun y => D.eqF y d) else ys.any fun y => D.eqF y d)) := by cases d <;> exact h
theorem flatV_of {K : PySem.W.Frag} {J : Hp} {d : D} {v : V} (h : Rp K J d v) (f : d.flat = true) : flatV v = true := by
  cases d <;> first | cases f | skip
  · rw [rp_non.mp h]; rfl
  · rw [rp_bl.mp h]; rfl
  · rw [rp_int.mp h]; rfl
  · rw [rp_str.mp h]; rfl
theorem eqV_of {K : PySem.W.Frag} {J : Hp} {d e : D} {v u : V} (h : Rp K J d v) (k : Rp K J e u) (f : d.flat = true) (g : e.flat = true) : eqV v u = D.eqF d e := by
  cases d <;> cases e <;> first | (cases f; done) | (cases g; done) | skip
  all_goals
    first | rw [rp_non.mp h] | rw [rp_bl.mp h] | rw [rp_int.mp h] | rw [rp_str.mp h]
    first | rw [rp_non.mp k] | rw [rp_bl.mp k] | rw [rp_int.mp k] | rw [rp_str.mp k]
    rfl
theorem flats_of {K : PySem.W.Frag} {J : Hp} : ∀ {ds : List D} {vs : List V}, RpL K J ds vs → ds.all D.flat = true → vs.all flatV = true
  | [], _, h, _ => by rw [rpl_nil.mp h]; rfl
  | d :: ds, _, h, f => by
    obtain ⟨v, r, rfl, h2, h3⟩ := rpl_cons.mp h
    simp only [List.all_cons, Bool.and_eq_true] at *
    exact ⟨flatV_of h2 f.1, flats_of h3 f.2⟩
theorem any_of {K : PySem.W.Frag} {J : Hp} {e : D} {u : V} (k : Rp K J e u) (g : e.flat = true) : ∀ {ds : List D} {vs : List V}, RpL K J ds vs → ds.all D.flat = true → (vs.any fun y => eqV y u) = ds.any fun y => D.eqF y e
  | [], _, h, _ => by rw [rpl_nil.mp h]; rfl
  | d :: ds, _, h, f => by
    obtain ⟨v, r, rfl, h2, h3⟩ := rpl_cons.mp h
    simp only [List.all_cons, List.any_cons, Bool.and_eq_true] at *
    rw [eqV_of h2 k f.1 g, any_of k g h3 f.2]
def rInA (K : PySem.W.Frag) (neg : Bool) : R2 := fun x y H Q => rIn K neg x y H Q ∨ ∃ i j, x = .str i ∧ y = .str j ∧ Q (.bl (if neg then !(!(Builtin.Str.occurrences j i 0 j.length 1).isEmpty) else !(Builtin.Str.occurrences j i 0 j.length 1).isEmpty)) H
theorem op_inA : OpR X (compareOp .In) (rInA X.K false) := OpR.or op_in_seq op_in_str
theorem op_notInA : OpR X (compareOp .NotIn) (rInA X.K true) := OpR.or op_notIn_seq op_notIn_str
theorem b2_in {K : PySem.W.Frag} {neg : Bool} : B2 K (rInA K neg) (bIn neg) := fun J H d e v u Q Q' s rv ru h hq => by
  cases e with
  | lst ys =>
    obtain ⟨f, g, q⟩ := bIn_lst h
    obtain ⟨a, us, rfl, g2, g3⟩ := rp_lst.mp ru
    refine .inl ⟨a, us, rfl, .inl (s.seq g2), flatV_of rv f, flats_of g3 g, ?_⟩
    unfold inV
    rw [any_of rv f g3 g]
    exact hq J H _ _ (Grow.refl s) (rp_b _) q
  | tup ys =>
    obtain ⟨f, g, q⟩ := bIn_tup h
    obtain ⟨a, us, rfl, g2, g3⟩ := rp_tup.mp ru
    refine .inl ⟨a, us, rfl, .inr (Same.seqT s g2), flatV_of rv f, flats_of g3 g, ?_⟩
    unfold inV
    rw [any_of rv f g3 g]
    exact hq J H _ _ (Grow.refl s) (rp_b _) q
  | str j =>
    cases d <;> first | exact h.elim | skip
    exact .inr ⟨_, _, rp_str.mp rv, rp_str.mp ru, hq J H _ _ (Grow.refl s) (rp_b _) h⟩
  | _ => cases d <;> exact h.elim
end
/-! ### built-ins -/
section
variable {X : Cx} {K : PySem.W.Frag}
theorem rpl1 {G : Hp} {d : D} {vs : List V} (h : RpL K G [d] vs) : ∃ v, vs = [v] ∧ Rp K G d v := by
  obtain ⟨v, r, rfl, h2, h3⟩ := rpl_cons.mp h
  rw [rpl_nil.mp h3]
  exact ⟨v, rfl, h2⟩
theorem rpl2 {G : Hp} {d e : D} {vs : List V} (h : RpL K G [d, e] vs) : ∃ v u, vs = [v, u] ∧ Rp K G d v ∧ Rp K G e u := by
  obtain ⟨v, r, rfl, h2, h3⟩ := rpl_cons.mp h
  obtain ⟨u, rfl, h4⟩ := rpl1 h3
  exact ⟨v, u, rfl, h2, h4⟩
def bLen : List D → (D → Prop) → Prop
  | [.str x], Q => x.length ≤ sizeLine ∧ Q (.int x.length)
  | [.lst xs], Q => Q (.int xs.length)
  | [.tup xs], Q => Q (.int xs.length)
  | _, _ => False
theorem bn_len : BN K (fun xs H Q => ∃ x n, xs = [x] ∧ LenV K x H n ∧ Q (.int n) H) bLen := fun J H ds vs Q Q' s rs h hq => by
  unfold bLen at h
  split at h
  · obtain ⟨v, rfl, rv⟩ := rpl1 rs
    exact ⟨v, _, rfl, by rw [rp_str.mp rv]; exact ⟨h.1, rfl⟩, hq J H _ _ (Grow.refl s) (rp_i _) h.2⟩
  · obtain ⟨v, rfl, rv⟩ := rpl1 rs
    obtain ⟨a, us, rfl, g2, g3⟩ := rp_lst.mp rv
    exact ⟨_, _, rfl, .inl ⟨us, s.seq g2, g3.length⟩, hq J H _ _ (Grow.refl s) (rp_i _) h⟩
  · obtain ⟨v, rfl, rv⟩ := rpl1 rs
    obtain ⟨a, us, rfl, g2, g3⟩ := rp_tup.mp rv
    exact ⟨_, _, rfl, .inr ⟨us, Same.seqT s g2, g3.length⟩, hq J H _ _ (Grow.refl s) (rp_i _) h⟩
  · exact h.elim
def bOrdC : List D → (D → Prop) → Prop
  | [.str x], Q => x.length = 1 ∧ Q (.int (x.cps.getD 0 0 : Nat))
  | _, _ => False
theorem bn_ord : BN K (fun xs H Q => ∃ x, xs = [.str x] ∧ x.length = 1 ∧ Q (.int (x.cps.getD 0 0 : Nat)) H) bOrdC := fun J H ds vs Q Q' s rs h hq => by
  unfold bOrdC at h
  split at h
  · obtain ⟨v, rfl, rv⟩ := rpl1 rs
    exact ⟨_, by rw [rp_str.mp rv], h.1, hq J H _ _ (Grow.refl s) (rp_i _) h.2⟩
  · exact h.elim
def bInt : List D → (D → Prop) → Prop
  | [.int i], Q => Q (.int i)
  | [.bl k], Q => Q (.int (if k then 1 else 0))
  | _, _ => False
theorem bn_int : BN K (fun xs H Q => (∃ i, xs = [.int i] ∧ Q (.int i) H) ∨ ∃ k, xs = [.bl k] ∧ Q (.int (if k then 1 else 0)) H) bInt := fun J H ds vs Q Q' s rs h hq => by
  unfold bInt at h
  split at h
  · obtain ⟨v, rfl, rv⟩ := rpl1 rs
    exact .inl ⟨_, by rw [rp_int.mp rv], hq J H _ _ (Grow.refl s) (rp_i _) h⟩
  · obtain ⟨v, rfl, rv⟩ := rpl1 rs
    exact .inr ⟨_, by rw [rp_bl.mp rv], hq J H _ _ (Grow.refl s) (rp_i _) h⟩
  · exact h.elim
theorem bn_ii {f : Int → Int → Int} {β : List D → (D → Prop) → Prop} (hβ : ∀ ds Q, β ds Q → ∃ i j, ds = [.int i, .int j] ∧ Q (.int (f i j))) : BN K (fun xs H Q => ∃ i j, xs = [.int i, .int j] ∧ Q (.int (f i j)) H) β := fun J H ds vs Q Q' s rs h hq => by
  obtain ⟨i, j, rfl, q⟩ := hβ ds Q h
  obtain ⟨v, u, rfl, rv, ru⟩ := rpl2 rs
  exact ⟨i, j, by rw [rp_int.mp rv, rp_int.mp ru], hq J H _ _ (Grow.refl s) (rp_i _) q⟩
def bMin : List D → (D → Prop) → Prop
  | [.int i, .int j], Q => Q (.int (if j < i then j else i))
  | _, _ => False
theorem bn_min : BN K (fun xs H Q => ∃ i j, xs = [.int i, .int j] ∧ Q (.int (if j < i then j else i)) H) bMin := bn_ii (f := fun i j => if j < i then j else i) fun ds Q h => by
  unfold bMin at h
  split at h
  · exact ⟨_, _, rfl, h⟩
  · exact h.elim
/-- all the items are ints -/
def intsOf : List D → Option (List Int)
  | [] => some []
  | .int i :: r => (intsOf r).map (i :: ·)
  | _ => none
def blsOf : List D → Option (List Bool)
  | [] => some []
  | .bl i :: r => (blsOf r).map (i :: ·)
  | _ => none
theorem intsOf_eq : ∀ {ds : List D} {ns : List Int}, intsOf ds = some ns → ds = ns.map D.int
  | [], ns, h => by simp [intsOf] at h; subst h; rfl
  | .int i :: r, ns, h => by
    simp only [intsOf] at h
    cases q : intsOf r with
    | none => rw [q] at h; simp at h
    | some m =>
      rw [q] at h
      simp at h
      rw [← h, intsOf_eq q]
      rfl
  | .non :: _, _, h | .bl _ :: _, _, h | .str _ :: _, _, h | .lst _ :: _, _, h | .tup _ :: _, _, h | .dic :: _, _, h | .obj _ _ _ :: _, _, h => by simp [intsOf] at h
theorem blsOf_eq : ∀ {ds : List D} {ns : List Bool}, blsOf ds = some ns → ds = ns.map D.bl
  | [], ns, h => by simp [blsOf] at h; subst h; rfl
  | .bl i :: r, ns, h => by
    simp only [blsOf] at h
    cases q : blsOf r with
    | none => rw [q] at h; simp at h
    | some m =>
      rw [q] at h
      simp at h
      rw [← h, blsOf_eq q]
      rfl
  | .non :: _, _, h | .int _ :: _, _, h | .str _ :: _, _, h | .lst _ :: _, _, h | .tup _ :: _, _, h | .dic :: _, _, h | .obj _ _ _ :: _, _, h => by simp [blsOf] at h
theorem intsOf_map : ∀ ns : List Int, intsOf (ns.map D.int) = some ns
  | [] => rfl
  | n :: ns => by simp [intsOf, intsOf_map ns]
theorem blsOf_map : ∀ ns : List Bool, blsOf (ns.map D.bl) = some ns
  | [] => rfl
  | n :: ns => by simp [blsOf, blsOf_map ns]
def bSum : List D → (D → Prop) → Prop
  | [.lst xs], Q => ∃ ns, intsOf xs = some ns ∧ Q (.int ns.sum)
  | _, _ => False
theorem bn_sum : BN K (rSum K) bSum := fun J H ds vs Q Q' s rs h hq => by
  unfold bSum at h
  split at h
  · obtain ⟨ns, e, q⟩ := h
    obtain ⟨v, rfl, rv⟩ := rpl1 rs
    obtain ⟨a, us, rfl, g2, g3⟩ := rp_lst.mp rv
    rw [intsOf_eq e] at g3
    exact ⟨a, ns, rfl, by rw [← g3.unints]; exact s.seq g2, hq J H _ _ (Grow.refl s) (rp_i _) q⟩
  · exact h.elim
def bAll : List D → (D → Prop) → Prop
  | [.lst xs], Q => ∃ ns, blsOf xs = some ns ∧ Q (.bl (ns.all id))
  | _, _ => False
theorem bn_all : BN K (rAll K) bAll := fun J H ds vs Q Q' s rs h hq => by
  unfold bAll at h
  split at h
  · obtain ⟨ns, e, q⟩ := h
    obtain ⟨v, rfl, rv⟩ := rpl1 rs
    obtain ⟨a, us, rfl, g2, g3⟩ := rp_lst.mp rv
    rw [blsOf_eq e] at g3
    exact ⟨a, ns, rfl, by rw [← g3.unbls]; exact s.seq g2, hq J H _ _ (Grow.refl s) (rp_b _) q⟩
  · exact h.elim
def bAny : List D → (D → Prop) → Prop
  | [.lst xs], Q => ∃ ns, blsOf xs = some ns ∧ Q (.bl (ns.any id))
  | _, _ => False
/-- tuple(x) -/
def bTuple : List D → (D → Prop) → Prop
  | [.lst xs], Q => Q (.tup xs)
  | [.tup xs], Q => Q (.tup xs)
  | _, _ => False
theorem bn_tuple : BN K (fun xs H Q => ∃ p ys, xs = [.ref p] ∧ ((SqL K H p ys ∧ ∀ l, H l = none → Q (.ref l) (upd H l (.tup ys))) ∨ (SqT K H p ys ∧ Q (.ref p) H))) bTuple := fun J H ds vs Q Q' s rs h hq => by
  unfold bTuple at h
  split at h
  · obtain ⟨v, rfl, rv⟩ := rpl1 rs
    obtain ⟨a, us, rfl, g2, g3⟩ := rp_lst.mp rv
    refine ⟨a, us, rfl, .inl ⟨s.seq g2, fun l hl => ?_⟩⟩
    have g := Grow.new (o := .tup us) s hl
    exact hq _ _ _ _ g (rp_tup.mpr ⟨l, us, rfl, SqT.of upd_same, g3.mono g.j⟩) h
  · obtain ⟨v, rfl, rv⟩ := rpl1 rs
    obtain ⟨a, us, rfl, g2, g3⟩ := rp_tup.mp rv
    exact ⟨a, us, rfl, .inr ⟨Same.seqT s g2, hq J H _ _ (Grow.refl s) rv h⟩⟩
  · exact h.elim
end
end VS
/-! VSe: isinstance, repr, len and the like as one-line rules. -/
namespace VS
open PySem PySem.Spec PyProof.Rows L2
/-- what every body knows of its surroundings: room for k calls, nothing is being shown, the table of modules stands in the base -/
structure Run (k : Nat) (X : Cx) : Prop where
  hr : Room k X.A
  hg : X.A.guards = some []
  hs : ∃ o es ep, X.base.get? sysModules = some o ∧ o.data = .dict es ep
theorem Run.mono {j k : Nat} {X : Cx} (r : Run k X) (h : j ≤ k) : Run j X := ⟨r.hr.mono h, r.hg, r.hs⟩
/-! ### isinstance -/
def D.kind : D → String
  | .non => "NoneType"
  | .bl _ => "bool"
  | .int _ => "int"
  | .str _ => "str"
  | .lst _ => "list"
  | .tup _ => "tuple"
  | .dic => "dict"
  | .obj _ _ _ => "object"
def isTy (T : String) : D → Bool
  | .non => false
  | .bl _ => T == "bool" || T == "int"
  | .int _ => T == "int"
  | .str _ => T == "str"
  | .lst _ => T == "list"
  | .tup _ => T == "tuple"
  | .dic => false
  | .obj _ _ _ => false
def okTy (T : String) : Bool := ["int", "bool", "str", "list", "tuple"].contains T
theorem okTy_cases {T : String} (h : okTy T = true) : T = "int" ∨ T = "bool" ∨ T = "str" ∨ T = "list" ∨ T = "tuple" := by
  simpa [okTy] using h
theorem kit_kind {d : D} {T : String} (h : okTy T = true) (ho : ∀ C ns xs, d ≠ .obj C ns xs) : kitB d.kind T = some (isTy T d) := by
  rcases okTy_cases h with rfl | rfl | rfl | rfl | rfl <;> cases d <;> first
    | exact absurd rfl (ho _ _ _)
    | (simp only [D.kind, isTy]; decide +kernel)
section
variable {K : PySem.W.Frag}
theorem ty_of {H : Hp} {d : D} {v : V} (h : Rp K H d v) (ho : ∀ C ns xs, d ≠ .obj C ns xs) : TyX K H v (.type d.kind) := by
  cases d with
  | non => rw [rp_non.mp h]; exact .base .non
  | bl b => rw [rp_bl.mp h]; exact .base (.bl b)
  | int i => rw [rp_int.mp h]; exact .base (.int i)
  | str x => rw [rp_str.mp h]; exact .base (.str x)
  | lst xs =>
    obtain ⟨a, vs, rfl, h2, _⟩ := rp_lst.mp h
    rcases h2 with (e | ⟨o, e⟩) | ⟨o, its, n, e, c, _⟩
    · exact .base (.lst e)
    · exact .base (.frz e)
    · exact .kList e c
  | tup xs =>
    obtain ⟨a, vs, rfl, h2, _⟩ := rp_tup.mp h
    rcases h2 with (e | ⟨o, e⟩) | ⟨o, its, n, e, c, _⟩
    · exact .base (.tup e)
    · exact .fTuple e
    · exact .kTuple e c
  | dic =>
    obtain ⟨a, rfl, h2⟩ := rp_dic.mp h
    exact .base (.dK h2)
  | obj C ns xs => exact absurd rfl (ho _ _ _)
def D.noObj : D → Prop
  | .obj _ _ _ => False
  | _ => True
theorem D.noObj.ne {d : D} (h : d.noObj) : ∀ C ns xs, d ≠ .obj C ns xs := fun C ns xs e => by subst e; exact h
end
section
variable {X : Cx} {W : WX} {pos p q1 : Pos} {a : Expr} {va : AV}
def vIsi (T : String) (va : AV) : AV := fun ρ Q => va ρ fun d => d.noObj ∧ Q (.bl (isTy T d))
theorem v_isi {T : String} {y : Str} (hT : okTy T = true) (hg : Gl X "isinstance") (hm : X.mg "isinstance" = none) (gT : Gl X y) (mT : X.mg y = none) (bT : bootBuiltins y = some (.type T)) (ea : VW X a va)
    (nT : y ≠ "__name__" := by decide) (dT : (y == ("__debug__" : Str)) = false := by decide)
    (he : starEach [a, .Name y q1] X.env = (false, eval a X.env) :: starEach [.Name y q1] X.env := by rfl) (hpl : (backTo pos (starEach [.Name y q1] X.env)).any (·.1) = false := by rfl) : VW X (.Call (.Name "isinstance" p) [a, .Name y q1] [] pos) (vIsi T va) := by
  obtain ⟨Ta, pa, ra⟩ := ea.ex
  have pT : PE X (.Name y q1) (tC (.ty T)) := pe_bltn gT mT bT rfl nT dT
  refine ⟨_, pe_callB call_isi hg hm (by decide +kernel) (pa_cons pa (pa_cons pT pa_nil) he) (by decide) (by decide) he hpl, fun P G F ρ σ H Q Q' R h hq => ?_⟩
  refine ra P G F ρ σ H _ _ R h fun G1 H1 v d R1 s1 k1 rv ⟨h1, h2⟩ => ?_
  exact ⟨v, .ty T, _, _, _, rfl, .ty T, ty_of rv h1.ne, kit_ty (kit_kind hT h1.ne), hq G1 H1 _ _ R1 s1 k1 (rp_b _) h2⟩
def vIsi2 (T U : String) (va : AV) : AV := fun ρ Q => va ρ fun d => d.noObj ∧ Q (.bl (isTy T d || isTy U d))
theorem v_isi2 {T U : String} {y z : Str} {q2 q3 : Pos} {j : Nat} (hT : okTy T = true) (hU : okTy U = true) (hg : Gl X "isinstance") (hm : X.mg "isinstance" = none) (gT : Gl X y) (mT : X.mg y = none) (bT : bootBuiltins y = some (.type T)) (gU : Gl X z) (mU : X.mg z = none) (bU : bootBuiltins z = some (.type U)) (ea : VW X a va)
    (nT : y ≠ "__name__" := by decide) (dT : (y == ("__debug__" : Str)) = false := by decide) (nU : z ≠ "__name__" := by decide) (dU : (z == ("__debug__" : Str)) = false := by decide)
    (he : starEach [a, .Tuple [.Name y q1, .Name z q2] j q3] X.env = (false, eval a X.env) :: starEach [.Tuple [.Name y q1, .Name z q2] j q3] X.env := by rfl) (hpl : (backTo pos (starEach [.Tuple [.Name y q1, .Name z q2] j q3] X.env)).any (·.1) = false := by rfl) : VW X (.Call (.Name "isinstance" p) [a, .Tuple [.Name y q1, .Name z q2] j q3] [] pos) (vIsi2 T U va) := by
  obtain ⟨Ta, pa, ra⟩ := ea.ex
  have pT : PE X (.Name y q1) (tC (.ty T)) := pe_bltn gT mT bT rfl nT dT
  have pU : PE X (.Name z q2) (tC (.ty U)) := pe_bltn gU mU bU rfl nU dU
  refine ⟨_, pe_callB call_isiT hg hm (by decide +kernel) (pa_cons pa (pa_cons (pe_tup (pa_cons pT (pa_cons pU pa_nil))) pa_nil) he) (by decide) (by decide) he hpl, fun P G F ρ σ H Q Q' R h hq => ?_⟩
  refine ra P G F ρ σ H _ _ R h fun G1 H1 v d R1 s1 k1 rv ⟨h1, h2⟩ => ?_
  refine ⟨by show 2 ≤ sizeLine; decide, fun t ht => ?_⟩
  have g := Grow.new (o := .tup [.ty T, .ty U]) (Same.refl H1) ht
  refine ⟨v, t, [.ty T, .ty U], .type d.kind, [.type T, .type U], isTy T d || isTy U d, rfl, upd_same, .cons (.ty T) (.cons (.ty U) .nil), ty_of (rv.mono g.h) h1.ne, ?_, hq G1 _ _ _ (R1.growV g) s1 (k1.trans g.h) (rp_b _) h2⟩
  refine kitAny_cons (kit_ty (kit_kind hT h1.ne)) (fun e => ?_) (fun e => by rw [e]; rfl)
  refine kitAny_cons (kit_ty (kit_kind hU h1.ne)) (fun e2 => ?_) (fun e2 => by rw [e2, Bool.or_true])
  rw [e, e2]
  rfl
end
/-! ### repr -/
section
variable {X : Cx} {pins : List (Addr × Obj)} {σ : St} {H : Hp} {s : Shared}
mutual
theorem Rp.reads (I : Inv X pins σ H s) (hs : ∃ o es ep, X.base.get? sysModules = some o ∧ o.data = .dict es ep) : ∀ (d : D) (v : V) (u : Value), Rp X.K H d v → d.pl false = true → RelV v u → ∃ as, Reads s.heap u d.py as ∧ sysModules ∉ as
  | .non, _, _, h, _, r => by
    rw [rp_non.mp h] at r
    cases r
    simp only [D.py]
    exact ⟨_, Reads.none, by simp⟩
  | .bl b, _, _, h, _, r => by
    rw [rp_bl.mp h] at r
    cases r
    simp only [D.py]
    exact ⟨_, Reads.bool b, by simp⟩
  | .int i, _, _, h, _, r => by
    rw [rp_int.mp h] at r
    obtain ⟨t, rfl⟩ := r
    simp only [D.py]
    exact ⟨_, Reads.int i t, by simp⟩
  | .str x, _, _, h, _, r => by
    rw [rp_str.mp h] at r
    obtain ⟨t, rfl⟩ := r
    simp only [D.py]
    exact ⟨_, Reads.str x t, by simp⟩
  | .lst xs, _, _, h, p, r => by
    obtain ⟨a, vs, rfl, h2, h3⟩ := rp_lst.mp h
    cases r
    obtain ⟨its, rv, ⟨o, n, ho, hc, hdd, hd⟩, _⟩ := I.list h2
    obtain ⟨as, q1, q2⟩ := RpL.reads I hs xs vs its h3 (by simpa only [D.pl] using p) rv
    simp only [D.py]
    refine ⟨_, Reads.list ho hc hd q1, fun hm => ?_⟩
    rcases List.mem_cons.mp hm with e | e
    · obtain ⟨ob, es, ep, hb, hbd⟩ := hs
      subst e
      obtain ⟨z1, z2⟩ := I.bs _ _ hb
      rcases h2 with (e | ⟨o, e⟩) | ⟨o', its', n', e, c, _⟩
      · rw [z2] at e; cases e
      · rw [z2] at e; cases e
      · have z3 := I.kIn _ _ e
        rw [z1] at ho
        cases ho
        rw [hbd] at hd
        cases hd
    · exact q2 e
  | .tup xs, _, _, h, p, r => by
    obtain ⟨a, vs, rfl, h2, h3⟩ := rp_tup.mp h
    cases r
    obtain ⟨its, rv, ⟨o, ho, hc, n, hd⟩, _⟩ := I.tuple h2
    obtain ⟨as, q1, q2⟩ := RpL.reads I hs xs vs its h3 (by simpa only [D.pl] using p) rv
    simp only [D.py]
    exact ⟨_, Reads.tuple ho hc hd q1, q2⟩
  | .dic, _, _, h, _, r => by
    obtain ⟨a, rfl, h2⟩ := rp_dic.mp h
    cases r
    obtain ⟨_, hne, vs, rk, ob, es, ep, e1, e2, e3, _, e4, _⟩ := I.hok a _ h2
    cases rk
    have e5 : es.toList = [] := by cases h : es.toList with
      | nil => rfl
      | cons x y => rw [h] at e4; cases e4
    simp only [D.py]
    refine ⟨[a] ++ [], Reads.dict (kvs := []) e1 e2.1 e3 (by rw [e5]; exact .nil) (by rw [e5]; exact .nil), ?_⟩
    simp only [List.append_nil, List.mem_singleton]
    intro z
    subst z
    simp at hne
  | .obj _ _ _, _, _, _, p, _ => by simp [D.pl] at p
theorem RpL.reads (I : Inv X pins σ H s) (hs : ∃ o es ep, X.base.get? sysModules = some o ∧ o.data = .dict es ep) : ∀ (ds : List D) (vs : List V) (us : List Value), RpL X.K H ds vs → D.plL false ds = true → Vals vs us → ∃ as, ReadsAll s.heap us (D.pyL ds) as ∧ sysModules ∉ as
  | [], _, _, h, _, r => by
    rw [rpl_nil.mp h] at r
    cases r
    simp only [D.pyL]
    exact ⟨_, ReadsAll.nil, by simp⟩
  | d :: ds, _, _, h, p, r => by
    obtain ⟨v, w, rfl, h2, h3⟩ := rpl_cons.mp h
    cases r with
    | cons r1 r2 =>
      simp only [D.plL, Bool.and_eq_true] at p
      obtain ⟨as, q1, n1⟩ := Rp.reads I hs d _ _ h2 p.1 r1
      obtain ⟨bs, q2, n2⟩ := RpL.reads I hs ds _ _ h3 p.2 r2
      simp only [D.pyL]
      exact ⟨_, ReadsAll.cons q1 q2, fun hm => (List.mem_append.mp hm).elim n1 n2⟩
end
theorem d_ref {K : PySem.W.Frag} {G : Hp} {d : D} {v : V} (h : Rp K G d v) (f : d.flat = false) (p : d.pl false = true) : ∃ a, v = .ref a := by
  cases d <;> first | cases f | skip
  · obtain ⟨a, vs, rfl, _⟩ := rp_lst.mp h; exact ⟨a, rfl⟩
  · obtain ⟨a, vs, rfl, _⟩ := rp_tup.mp h; exact ⟨a, rfl⟩
  · obtain ⟨a, rfl, _⟩ := rp_dic.mp h; exact ⟨a, rfl⟩
  · simp [D.pl] at p
/-- repr(x) -/
def D.shOk (d : D) : Prop := d.pl false = true ∧ d.py.showable = true ∧ d.py.shown.length ≤ sizeLine ∧ d.py.depth ≤ 60
def rRepr (K : PySem.W.Frag) : List V → Hp → VK → Prop := fun vs H Q => ∃ d v, vs = [v] ∧ Rp K H d v ∧ d.shOk ∧ Q (.str d.py.shown) H
theorem call_repr {k : Nat} (rn : Run k X) : CallR X (.builtin "repr") (rRepr X.K) := by
  intro pins s σ H xs us Q I r ⟨d, v, e, rv, ⟨h1, h2, h3, h4⟩, q⟩
  subst e
  obtain ⟨u, rfl, ru⟩ := Vals.one r
  have hu := rn.hr.units
  cases hf : d.flat with
  | true =>
    cases d <;> first | cases hf | skip
    · rw [rp_non.mp rv] at ru
      cases ru
      exact PySem.P.repr_of_none ⟨.str _, H, I.tok _, ⟨_, rfl⟩, by simpa [D.py, PyData.shown] using q⟩
    · rename_i b
      rw [rp_bl.mp rv] at ru
      cases ru
      exact PySem.P.repr_of_bool ⟨.str _, H, I.tok _, ⟨_, rfl⟩, by simpa [D.py, PyData.shown] using q⟩
    · rw [rp_int.mp rv] at ru
      obtain ⟨t, rfl⟩ := ru
      exact PySem.P.repr_of_int (by simpa [D.py, PyData.showable] using h2) ⟨.str _, H, I.tok _, ⟨_, rfl⟩, by simpa [D.py, PyData.shown] using q⟩
    · rw [rp_str.mp rv] at ru
      obtain ⟨t, rfl⟩ := ru
      exact PySem.P.repr_of_str ⟨.str _, H, I.tok _, ⟨_, rfl⟩, by simpa [D.py, PyData.shown] using q⟩ (by simpa [D.py, PyData.shown] using h3)
  | false =>
    obtain ⟨a, rfl⟩ := d_ref rv hf h1
    obtain ⟨as, rd, hn⟩ := Rp.reads I rn.hs d _ _ rv h1 ru
    cases ru
    refine repr_of_reads' rd h2 (fun _ => hn) rn.hg (by omega) (fun _ _ e => e) (fun h' u tk kp => ?_) h3
    exact ⟨.str _, H, I.kept (t' := tk) kp, ⟨u, rfl⟩, q⟩
def bRepr : List D → (D → Prop) → Prop
  | [d], Q => d.shOk ∧ Q (.str d.py.shown)
  | _, _ => False
theorem bn_repr {K : PySem.W.Frag} : BN K (rRepr K) bRepr := fun J H ds vs Q Q' s rs h hq => by
  unfold bRepr at h
  split at h
  · obtain ⟨v, rfl, rv⟩ := rpl1 rs
    exact ⟨_, v, rfl, rv.mono s, h.1, hq J H _ _ (Grow.refl s) (rp_s _) h.2⟩
  · exact h.elim
end
end VS
/-! VSf: statements, targets, loops, comprehensions. -/
namespace VS
open PySem PySem.Spec PyProof.Rows L2
/-! ### stores -/
/-- slot i may be stored: it is no list that the caller lent -/
def okSet (ρ : List Sv) (i : Nat) : Prop := match ρ[i]? with
  | some (.own true _) => False
  | none => False
  | _ => True
section
variable {K : PySem.W.Frag} {P : List (Nat × Addr)} {G F G' : Hp} {ρ : List Sv} {σ : St} {H H' : Hp}
theorem okSet.lt {i : Nat} (h : okSet ρ i) : i < ρ.length := by
  unfold okSet at h
  cases e : ρ[i]? with
  | none => rw [e] at h; exact h.elim
  | some s => exact (List.getElem?_eq_some_iff.mp e).1
theorem okSet.nio {i : Nat} (h : okSet ρ i) (xs : List D) : ρ[i]? ≠ some (.own true xs) := fun e => by
  unfold okSet at h
  rw [e] at h
  exact h
theorem set_ne {α : Type} {l : List α} {i j : Nat} {x : α} (h : j ≠ i) : (l.set i x)[j]? = l[j]? := List.getElem?_set_ne fun z => h z.symm
theorem set_eq {α : Type} {l : List α} {i : Nat} {x : α} (h : i < l.length) : (l.set i x)[i]? = some x := List.getElem?_set_self h
/-- slot i holds no tree behind a store of another kind -/
theorem noTre {ρ : List Sv} {i j : Nat} {s : Sv} {t : Tr} (hs : ∀ t, s ≠ .tre t) (q : (ρ.set i s)[j]? = some (.tre t)) : j ≠ i ∧ ρ[j]? = some (.tre t) := by
  rcases get_set q with ⟨_, z⟩ | ⟨hj, q⟩
  · exact absurd z.symm (hs t)
  · exact ⟨hj, q⟩
theorem noOwnS {ρ : List Sv} {i j : Nat} {s : Sv} {b : Bool} {ys : List D} (hs : ∀ b ys, s ≠ .own b ys) (q : (ρ.set i s)[j]? = some (.own b ys)) : j ≠ i ∧ ρ[j]? = some (.own b ys) := by
  rcases get_set q with ⟨_, z⟩ | ⟨hj, q⟩
  · exact absurd z.symm (hs b ys)
  · exact ⟨hj, q⟩
/-- a slot is changed that then holds no list of its own -/
theorem TrOk.setN {s : Sv} {i : Nat} {x : Option V} (T : TrOk K G F ρ σ H) (hs : ∀ b ys, s ≠ .own b ys) (ht : ∀ t, s ≠ .tre t) : TrOk K G F (ρ.set i s) (σ.set i x) H :=
  T.step (fun j t q => by
    obtain ⟨hj, q⟩ := noTre ht q
    exact ⟨q, by rw [set_ne hj]⟩) (Same.refl _) (fun j t a q ha => by
    obtain ⟨_, g2, g3⟩ := T.ex (noTre ht q).2 ha
    exact ⟨rfl, g2, g3⟩) fun j c ys a k t q1 q2 q3 => by
    obtain ⟨hj, q1⟩ := noOwnS hs q1
    rw [set_ne hj] at q2
    exact T.own k t j c ys a (noTre ht q3).2 q1 q2
theorem TrOk.setN' {s : Sv} {i : Nat} (T : TrOk K G F ρ σ H) (hs : ∀ b ys, s ≠ .own b ys) (ht : ∀ t, s ≠ .tre t) : TrOk K G F (ρ.set i s) σ H :=
  T.step (fun j t q => ⟨(noTre ht q).2, rfl⟩) (Same.refl _) (fun j t a q ha => by
    obtain ⟨_, g2, g3⟩ := T.ex (noTre ht q).2 ha
    exact ⟨rfl, g2, g3⟩) fun j c ys a k t q1 q2 q3 => T.own k t j c ys a (noTre ht q3).2 (noOwnS hs q1).2 q2
/-- a slot holds data -/
theorem Rel.setD (R : Rel K P G F ρ σ H) {i : Nat} (ok : okSet ρ i) {d : D} {v : V} (rv : Rp K G d v) : Rel K P G F (ρ.set i (.dat d)) (σ.set i (some v)) H := by
  have hl : i < σ.length := by rw [← R.len]; exact ok.lt
  refine ⟨by rw [List.length_set, List.length_set]; exact R.len, R.sg, R.sf, R.gf, fun j e q => ?_, fun j b ys q => ?_, fun j k a b ys c zs q1 q2 q3 q4 => ?_, fun p hp => ?_, fun j ys q => ?_, R.tr.setN (fun _ _ z => by cases z) fun _ z => by cases z⟩
  · rcases get_set q with ⟨rfl, z⟩ | ⟨hj, q⟩
    · cases z
      exact ⟨v, set_eq hl, rv⟩
    · rw [set_ne hj]
      exact R.dat j e q
  · rcases get_set q with ⟨rfl, z⟩ | ⟨hj, q⟩
    · cases z
    · rw [set_ne hj]
      exact R.own j b ys q
  · rcases get_set q1 with ⟨_, z⟩ | ⟨hj, q1⟩
    · cases z
    rcases get_set q2 with ⟨_, z⟩ | ⟨hk, q2⟩
    · cases z
    rw [set_ne hj] at q3
    rw [set_ne hk] at q4
    exact R.ne j k a b ys c zs q1 q2 q3 q4
  · obtain ⟨g1, zs, g2⟩ := R.pin p hp
    have hne : p.1 ≠ i := fun z => ok.nio zs (by rw [← z]; exact g2)
    exact ⟨by rw [set_ne hne]; exact g1, zs, by rw [set_ne hne]; exact g2⟩
  · rcases get_set q with ⟨_, z⟩ | ⟨_, q⟩
    · cases z
    · exact R.pinc j ys q
/-- a slot holds a list of its own -/
theorem Rel.setO (R : Rel K P G F ρ σ H) {i : Nat} (ok : okSet ρ i) {a : Addr} {vs : List V} {xs : List D} (h2 : H a = some (.lst vs)) (h3 : G a = none) (h4 : F a = none)
    (hn : NoS ρ σ a) (hr : RpL K G xs vs) : Rel K P G F (ρ.set i (.own false xs)) (σ.set i (some (.ref a))) H := by
  have hl : i < σ.length := by rw [← R.len]; exact ok.lt
  refine ⟨by rw [List.length_set, List.length_set]; exact R.len, R.sg, R.sf, R.gf, fun j e q => ?_, fun j b ys q => ?_, fun j k c b ys b' zs q1 q2 q3 q4 => ?_, fun p hp => ?_, fun j ys q => ?_, R.tr.step (fun j t q => ?_) (Same.refl _) (fun j t b q hb => ?_) fun j c ys b k t q1 q2 q3 => ?_⟩
  · rcases get_set q with ⟨rfl, z⟩ | ⟨hj, q⟩
    · cases z
    · rw [set_ne hj]
      exact R.dat j e q
  · rcases get_set q with ⟨rfl, z⟩ | ⟨hj, q⟩
    · cases z
      exact ⟨a, vs, set_eq hl, h2, h3, h4, hr⟩
    · rw [set_ne hj]
      exact R.own j b ys q
  · rcases get_set q1 with ⟨e1, z1⟩ | ⟨hj, q1⟩
    · rcases get_set q2 with ⟨e2, _⟩ | ⟨hk, q2⟩
      · rw [e1, e2]
      · rw [e1, set_eq hl] at q3
        rw [set_ne hk] at q4
        cases q3
        exact absurd q4 (hn.own k _ _ q2)
    · rw [set_ne hj] at q3
      rcases get_set q2 with ⟨e2, _⟩ | ⟨hk, q2⟩
      · rw [e2, set_eq hl] at q4
        cases q4
        exact absurd q3 (hn.own j _ _ q1)
      · rw [set_ne hk] at q4
        exact R.ne j k c b ys b' zs q1 q2 q3 q4
  · obtain ⟨g1, zs, g2⟩ := R.pin p hp
    have hne : p.1 ≠ i := fun z => ok.nio zs (by rw [← z]; exact g2)
    exact ⟨by rw [set_ne hne]; exact g1, zs, by rw [set_ne hne]; exact g2⟩
  · rcases get_set q with ⟨_, z⟩ | ⟨_, q⟩
    · cases z
    · exact R.pinc j ys q
  · obtain ⟨hj, q⟩ := noTre (fun _ z => by cases z) q
    exact ⟨q, by rw [set_ne hj]⟩
  · obtain ⟨_, g2, g3⟩ := R.tr.ex (noTre (fun _ z => by cases z) q).2 hb
    exact ⟨rfl, g2, g3⟩
  · have q3 := (noTre (fun _ z => by cases z) q3).2
    rcases get_set q1 with ⟨e1, _⟩ | ⟨hj, q1⟩
    · rw [e1, set_eq hl] at q2
      cases q2
      exact hn.tre k t q3
    · rw [set_ne hj] at q2
      exact R.tr.own k t j c ys b q3 q1 q2
/-- an own list is rewritten in place -/
theorem Rel.write (R : Rel K P G F ρ σ H) {i : Nat} {b : Bool} {xs ys : List D} {a : Addr} {us : List V} (e : ρ[i]? = some (.own b xs)) (ea : σ[i]? = some (some (.ref a))) (hr : RpL K G ys us) :
    Rel K P G F (ρ.set i (.own b ys)) σ (upd H a (.lst us)) := by
  obtain ⟨a', vs, g1, g2, g3, g4, g5⟩ := R.own i b xs e
  rw [ea] at g1
  cases g1
  have hl : i < ρ.length := (List.getElem?_eq_some_iff.mp e).1
  refine ⟨by rw [List.length_set]; exact R.len, fun c o q => ?_, fun c o q => ?_, R.gf, fun j d q => ?_, fun j c zs q => ?_, fun j k c b1 z1 b2 z2 q1 q2 q3 q4 => ?_, fun p hp => ?_, fun j zs q => ?_, R.tr.step (fun j t q => ?_) (Same.refl _) (fun j t c q hc => ?_) fun j c zs d k t q1 q2 q3 => ?_⟩
  · rw [upd_ne (ne_of_none q g3)]; exact R.sg _ _ q
  · rw [upd_ne (ne_of_none q g4)]; exact R.sf _ _ q
  · rcases get_set q with ⟨_, z⟩ | ⟨_, q⟩
    · cases z
    · exact R.dat j d q
  · rcases get_set q with ⟨rfl, z⟩ | ⟨hj, q⟩
    · cases z
      exact ⟨a, us, ea, upd_same, g3, g4, hr⟩
    · obtain ⟨c', us', k1, k2, k3, k4, k5⟩ := R.own j c zs q
      refine ⟨c', us', k1, ?_, k3, k4, k5⟩
      rw [upd_ne fun z => ?_]
      · exact k2
      · subst z
        exact hj (R.ne j i _ _ _ _ _ q e k1 ea)
  · have f : ∀ (j : Nat) (b1 : Bool) (z1 : List D), (ρ.set i (.own b ys))[j]? = some (.own b1 z1) → ∃ b2 z2, ρ[j]? = some (.own b2 z2) := fun j b1 z1 q => by
      rcases get_set q with ⟨rfl, _⟩ | ⟨_, q⟩
      · exact ⟨_, _, e⟩
      · exact ⟨_, _, q⟩
    obtain ⟨b3, z3, q1⟩ := f j _ _ q1
    obtain ⟨b4, z4, q2⟩ := f k _ _ q2
    exact R.ne j k c _ _ _ _ q1 q2 q3 q4
  · obtain ⟨g1, zs, g2'⟩ := R.pin p hp
    refine ⟨g1, ?_⟩
    by_cases hne : p.1 = i
    · rw [hne, e] at g2'
      cases g2'
      rw [hne]
      exact ⟨ys, set_eq hl⟩
    · exact ⟨zs, by rw [set_ne hne]; exact g2'⟩
  · rcases get_set q with ⟨rfl, z⟩ | ⟨_, q⟩
    · cases z
      exact R.pinc _ _ e
    · exact R.pinc j zs q
  · exact ⟨(noTre (fun _ z => by cases z) q).2, rfl⟩
  · have q := (noTre (fun _ z => by cases z) q).2
    obtain ⟨_, k2, k3⟩ := R.tr.ex q hc
    exact ⟨upd_ne fun z => R.tr.own j t i b xs a q e ea (by rw [← z]; exact hc), k2, k3⟩
  · have r3 := (noTre (fun _ z => by cases z) q3).2
    rcases get_set q1 with ⟨ej, _⟩ | ⟨_, q1⟩
    · rw [ej] at q2
      exact R.tr.own k t i b xs d r3 e q2
    · exact R.tr.own k t j c zs d r3 q1 q2
/-- a slot's list is handed away -/
theorem Rel.drop (R : Rel K P G F ρ σ H) {i : Nat} {xs : List D} (e : ρ[i]? = some (.own false xs)) : Rel K P G F (ρ.set i .un) σ H := by
  refine ⟨by rw [List.length_set]; exact R.len, R.sg, R.sf, R.gf, fun j d q => ?_, fun j b ys q => ?_, fun j k c b ys b' zs q1 q2 => ?_, fun p hp => ?_, fun j ys q => ?_, R.tr.setN' (fun _ _ z => by cases z) fun _ z => by cases z⟩
  · rcases get_set q with ⟨_, z⟩ | ⟨_, q⟩
    · cases z
    · exact R.dat j d q
  · rcases get_set q with ⟨_, z⟩ | ⟨_, q⟩
    · cases z
    · exact R.own j b ys q
  · rcases get_set q1 with ⟨_, z⟩ | ⟨_, q1⟩
    · cases z
    rcases get_set q2 with ⟨_, z⟩ | ⟨_, q2⟩
    · cases z
    exact R.ne j k c b ys b' zs q1 q2
  · obtain ⟨g1, zs, g2⟩ := R.pin p hp
    refine ⟨g1, zs, ?_⟩
    rw [set_ne fun z => ?_]
    · exact g2
    · rw [z, e] at g2; cases g2
  · rcases get_set q with ⟨_, z⟩ | ⟨_, q⟩
    · cases z
    · exact R.pinc j ys q
end
/-! ### targets -/
abbrev AG := D → List Sv → (List Sv → Prop) → Prop
abbrev AGs := List D → List Sv → (List Sv → Prop) → Prop
structure GX (X : Cx) (tg : Expr) (t : AG) : Prop where
  ex : ∃ T : TG, PG X tg T ∧ ∀ P G F ρ σ H d v (Q : List Sv → Prop) (Q' : St → Hp → Prop), Rel X.K P G F ρ σ H → Rp X.K G d v → t d ρ Q → (∀ ρ' σ', Rel X.K P G F ρ' σ' H → Q ρ' → Q' σ' H) → T v σ H Q'
structure GXs (X : Cx) (ts : List Expr) (n : Nat) (t : AGs) : Prop where
  ex : ∃ T : TGs, PGs X ts T ∧ ∀ P G F ρ σ H ds vs (Q : List Sv → Prop) (Q' : St → Hp → Prop), Rel X.K P G F ρ σ H → RpL X.K G ds vs → t ds ρ Q → (∀ ρ' σ', Rel X.K P G F ρ' σ' H → Q ρ' → Q' σ' H) → T vs σ H Q'
  len : ∀ ds ρ Q, t ds ρ Q → ds.length = n
def agName (i : Nat) : AG := fun d ρ Q => okSet ρ i ∧ Q (ρ.set i (.dat d))
def agNil : AGs := fun ds ρ Q => ds = [] ∧ Q ρ
def agCons (t : AG) (u : AGs) : AGs := fun ds ρ Q => match ds with
  | [] => False
  | d :: r => t d ρ fun ρ1 => u r ρ1 Q
def agTup (u : AGs) : AG := fun d ρ Q => match d with
  | .tup ds => u ds ρ Q
  | .lst ds => u ds ρ Q
  | _ => False
section
variable {X : Cx} {pos : Pos}
theorem g_name {i : Nat} {x : Str} (hN : X.N.Nodup) (hi : X.N[i]? = some x := by rfl) (hx : Loc X.env.scope x := by first | exact .inl rfl | exact .inr rfl) (hf : X.fn x = true ∨ X.env.scope.names.lookup x = some .local := by first | exact .inl rfl | exact .inr rfl | assumption) : GX X (.Name x pos) (agName i) := by
  refine ⟨_, pg_name hN hi hx hf, fun P G F ρ σ H d v Q Q' R rv ⟨ok, h⟩ hq => hq _ _ (R.setD ok rv) h⟩
theorem gs_nil : GXs X [] 0 agNil := ⟨⟨_, pgs_nil, fun P G F ρ σ H ds vs Q Q' R rs ⟨e, h⟩ hq => by
  subst e
  exact ⟨rpl_nil.mp rs, hq _ _ R h⟩⟩, fun ds ρ Q h => by rw [h.1]; rfl⟩
theorem gs_cons {e : Expr} {es : List Expr} {n : Nat} {t : AG} {u : AGs} (h1 : GX X e t) (h2 : GXs X es n u) (hs : (assignEach (e :: es) X.env).map (·.2) = assign e X.env :: (assignEach es X.env).map (·.2) := by rfl)
    (hm : ∀ d ρ Q, t d ρ Q → ∃ ρ1, Q ρ1) : GXs X (e :: es) (n + 1) (agCons t u) := by
  obtain ⟨T, p, r⟩ := h1.ex
  obtain ⟨U, p', r'⟩ := h2.ex
  refine ⟨⟨_, pgs_cons p p' hs, fun P G F ρ σ H ds vs Q Q' R rs h hq => ?_⟩, fun ds ρ Q h => ?_⟩
  · cases ds with
    | nil => exact h.elim
    | cons d ds =>
      obtain ⟨v, w, rfl, rv, rw'⟩ := rpl_cons.mp rs
      exact ⟨v, w, rfl, r P G F ρ σ H d v _ _ R rv h fun ρ1 σ1 R1 q1 => r' P G F ρ1 σ1 H ds w _ Q' R1 rw' q1 hq⟩
  · cases ds with
    | nil => exact h.elim
    | cons d ds =>
      obtain ⟨ρ1, q⟩ := hm _ _ _ h
      rw [List.length_cons, h2.len _ _ _ q]
theorem gm_name {i : Nat} : ∀ d ρ Q, agName i d ρ Q → ∃ ρ1, Q ρ1 := fun d ρ Q h => ⟨_, h.2⟩
theorem PG.or {tg : Expr} {t u : TG} (h : PG X tg t) (k : PG X tg u) : PG X tg (fun v σ H Q => t v σ H Q ∨ u v σ H Q) := ⟨fun pins s σ H v w Q I r q => q.elim (h.run pins s σ H v w Q I r) (k.run pins s σ H v w Q I r)⟩
theorem g_tup {es : List Expr} {k n : Nat} {u : AGs} (hc : X.calm = true) (h : GXs X es n u) (hn : (assignEach es X.env).length = n := by rfl) (hst : (assignEach es X.env).findIdx? (·.1) = none := by rfl) : GX X (.Tuple es k pos) (agTup u) := by
  obtain ⟨T, p, r⟩ := h.ex
  refine ⟨_, PG.or (pg_tup hc p hn hst) (pg_lst hc p hn hst), fun P G F ρ σ H d v Q Q' R rv h' hq => ?_⟩
  cases d <;> first | exact h'.elim | skip
  · obtain ⟨a, vs, rfl, h2, h3⟩ := rp_lst.mp rv
    exact .inr ⟨a, vs, rfl, R.sg.seq h2, by rw [← h3.length]; exact h.len _ _ _ h', r P G F ρ σ H _ vs Q Q' R h3 h' hq⟩
  · obtain ⟨a, vs, rfl, h2, h3⟩ := rp_tup.mp rv
    exact .inl ⟨a, vs, rfl, Same.seqT R.sg h2, by rw [← h3.length]; exact h.len _ _ _ h', r P G F ρ σ H _ vs Q Q' R h3 h' hq⟩
end
/-! ### simple statements -/
def sAsg (te : AE) (g : AG) : AS := fun D ρ => te ρ (fun d ρ1 => g d ρ1 D.nx) D.xx
def sSetO (te : AO) (i : Nat) : AS := fun D ρ => te ρ (fun xs ρ1 => okSet ρ1 i ∧ D.nx (ρ1.set i (.own false xs))) D.xx
def sDrop (te : AE) : AS := fun D ρ => te ρ (fun _ ρ1 => D.nx ρ1) D.xx
def sRet (te : AE) : AS := fun D ρ => te ρ (fun d ρ1 => D.rt (.dat d) ρ1) D.xx
def sRetO (te : AO) : AS := fun D ρ => te ρ (fun xs ρ1 => D.rt (.own false xs) ρ1) D.xx
/-- return x, x a list of its own -/
def sRetV (i : Nat) : AS := fun D ρ => match ρ[i]? with
  | some (.own false xs) => D.rt (.own false xs) (ρ.set i .un)
  | some (.dat d) => D.rt (.dat d) ρ
  | _ => False
def sNx : AS := fun D ρ => D.nx ρ
def sSeq (t u : AS) : AS := fun D ρ => t { D with nx := u D } ρ
def sIf (c : AT) (t u : AS) : AS := fun D ρ => c ρ (fun b ρ1 => if b = true then t D ρ1 else u D ρ1) D.xx
section
variable {X : Cx} {W : WX} {pos : Pos} {e : Expr} {te : AE} {to : AO}
theorem XIn.at {P : List (Nat × Addr)} {G F : Hp} {D : AEnds} {D' : Ends} (h : EndsOk X W P G F D D') (σ : St) : XIn X W P G F σ D.xx := h.xx σ
theorem s_set {i : Nat} {x : Str} {pos' : Pos} (hN : X.N.Nodup) (he : EX X W e te) (hi : X.N[i]? = some x := by rfl) (hx : Loc X.env.scope x := by first | exact .inl rfl | exact .inr rfl) (hs : swapsWith e (some (.Name x pos')) pos.line X.env = pure false := by rfl)
    (hf : X.fn x = true ∨ X.env.scope.names.lookup x = some .local := by first | exact .inl rfl | exact .inr rfl | assumption) : SX X W (.Assign [.Name x pos'] e pos) (sAsg te (agName i)) := by
  obtain ⟨T, p, r⟩ := he.ex
  refine ⟨_, ps_set hN hi hx p hs hf, fun P G F ρ σ H D D' R h hd => ?_⟩
  exact r P G F ρ σ H _ D.xx _ R h (hd.xx σ) fun G1 ρ1 H1 v d R1 s1 rv ⟨ok, q⟩ => hd.nx G1 _ _ H1 (R1.setD ok rv) s1 q
theorem s_setO {i : Nat} {x : Str} {pos' : Pos} (hN : X.N.Nodup) (he : EO X W e to) (hi : X.N[i]? = some x := by rfl) (hx : Loc X.env.scope x := by first | exact .inl rfl | exact .inr rfl) (hs : swapsWith e (some (.Name x pos')) pos.line X.env = pure false := by rfl)
    (hf : X.fn x = true ∨ X.env.scope.names.lookup x = some .local := by first | exact .inl rfl | exact .inr rfl | assumption) : SX X W (.Assign [.Name x pos'] e pos) (sSetO to i) := by
  obtain ⟨T, p, r⟩ := he.ex
  refine ⟨_, ps_set hN hi hx p hs hf, fun P G F ρ σ H D D' R h hd => ?_⟩
  exact r P G F ρ σ H _ D.xx _ R h (hd.xx σ) fun G1 ρ1 H1 a vs xs R1 s1 h2 h3 h4 hn hr ⟨ok, q⟩ => hd.nx G1 _ _ H1 (R1.setO ok h2 h3 h4 hn hr) s1 q
theorem s_asg {tg : Expr} {g : AG} (he : EX X W e te) (hg : GX X tg g) (hs : swapsWithSole [tg] e pos.line X.env = pure false := by rfl) (hw : swappedStores [tg] e X.env = pure none := by rfl)
    (h1 : (assignEach [tg] X.env).map (·.2) = [assign tg X.env] := by rfl) : SX X W (.Assign [tg] e pos) (sAsg te g) := by
  obtain ⟨T, p, r⟩ := he.ex
  obtain ⟨U, p', r'⟩ := hg.ex
  refine ⟨_, ps_asg p p' hs hw h1, fun P G F ρ σ H D D' R h hd => ?_⟩
  exact r P G F ρ σ H _ D.xx _ R h (hd.xx σ) fun G1 ρ1 H1 v d R1 s1 rv q => r' P G1 F ρ1 σ H1 d v _ _ R1 rv q fun ρ2 σ2 R2 q2 => hd.nx G1 ρ2 σ2 H1 R2 s1 q2
theorem s_expr (he : EX X W e te) (hs : swapsWith e none pos.line X.env = pure false := by rfl) : SX X W (.Expr e pos) (sDrop te) := by
  obtain ⟨T, p, r⟩ := he.ex
  refine ⟨_, ps_expr p hs, fun P G F ρ σ H D D' R h hd => ?_⟩
  exact r P G F ρ σ H _ D.xx _ R h (hd.xx σ) fun G1 ρ1 H1 v d R1 s1 rv q => hd.nx G1 ρ1 σ H1 R1 s1 q
theorem s_ret (he : EX X W e te) : SX X W (.Return (some e) pos) (sRet te) := by
  obtain ⟨T, p, r⟩ := he.ex
  refine ⟨_, ps_ret p, fun P G F ρ σ H D D' R h hd => ?_⟩
  exact r P G F ρ σ H _ D.xx _ R h (hd.xx σ) fun G1 ρ1 H1 v d R1 s1 rv q => hd.rt G1 ρ1 σ H1 (.dat d) v R1 s1 rv q
theorem s_retO (he : EO X W e to) : SX X W (.Return (some e) pos) (sRetO to) := by
  obtain ⟨T, p, r⟩ := he.ex
  refine ⟨_, ps_ret p, fun P G F ρ σ H D D' R h hd => ?_⟩
  refine r P G F ρ σ H _ D.xx _ R h (hd.xx σ) fun G1 ρ1 H1 a vs xs R1 s1 h2 h3 h4 hn hr q => hd.rt G1 ρ1 σ H1 (.own false xs) (.ref a) R1 s1 ⟨a, vs, rfl, h2, h3, h4, fun p hp z => ?_, hr⟩ q
  obtain ⟨g1, zs, g2⟩ := R1.pin p hp
  exact hn.own _ _ _ g2 (by rw [← z]; exact g1)
theorem s_retV {i : Nat} {x : Str} {p1 : Pos} (hi : X.N[i]? = some x := by rfl) (hv : Vis X.env.scope x := by first | exact Or.inl rfl | exact Or.inr (Or.inl rfl) | exact Or.inr (Or.inr rfl)) (hd1 : (x == ("__debug__" : Str)) = false := by decide)
    (hcd : (x == ("__classdict__" : Str)) = false := by decide) : SX X W (.Return (some (.Name x p1)) pos) (sRetV i) := by
  refine ⟨_, ps_ret (pe_var hi hv hd1 hcd), fun P G F ρ σ H D D' R h hd => ?_⟩
  unfold sRetV at h
  cases q : ρ[i]? with
  | none => rw [q] at h; exact h.elim
  | some s =>
    rw [q] at h
    cases s with
    | un => exact h.elim
    | pr _ _ => exact h.elim
    | tre _ => exact h.elim
    | dat d =>
      obtain ⟨v, g1, g2⟩ := R.dat i d q
      exact ⟨v, g1, hd.rt G ρ σ H (.dat d) v R (Same.refl _) g2 h⟩
    | own b xs =>
      cases b with
      | true => exact h.elim
      | false =>
        obtain ⟨a, vs, g1, g2, g3, g4, g5⟩ := R.own i false xs q
        refine ⟨_, g1, hd.rt G _ σ H (.own false xs) (.ref a) (R.drop q) (Same.refl _) ⟨a, vs, rfl, g2, g3, g4, fun p hp z => ?_, g5⟩ h⟩
        obtain ⟨k1, zs, k2⟩ := R.pin p hp
        have e1 := R.ne p.1 i a _ _ _ _ k2 q (by rw [← z]; exact k1) g1
        rw [e1, q] at k2
        cases k2
theorem s_continue : SX X W (.Continue pos) (fun D ρ => D.ct ρ) := ⟨_, ps_continue, fun P G F ρ σ H D D' R h hd => hd.ct G ρ σ H R (Same.refl _) h⟩
theorem ss_nil : SXs X W [] sNx := ⟨_, pss_nil, fun P G F ρ σ H D D' R h hd => hd.nx G ρ σ H R (Same.refl _) h⟩
variable {st : Stmt} {rest : List Stmt} {t u : AS}
theorem ss_one (h : SX X W st t) : SXs X W [st] t := by
  obtain ⟨T, p, r⟩ := h.ex
  exact ⟨_, pss_one p, r⟩
theorem ss_cons (h : SX X W st t) (k : SXs X W rest u) : SXs X W (st :: rest) (sSeq t u) := by
  obtain ⟨T, p, r⟩ := h.ex
  obtain ⟨U, p', r'⟩ := k.ex
  refine ⟨_, pss_cons p p', fun P G F ρ σ H D D' R h hd => ?_⟩
  exact r P G F ρ σ H _ _ R h ⟨fun G1 ρ1 σ1 H1 R1 s1 q => r' P G1 F ρ1 σ1 H1 D D' R1 q (hd.mono s1), hd.rt, hd.bk, hd.ct, hd.xx⟩
theorem s_if {c : Expr} {a b : List Stmt} {tc : AT} {t u : AS} (hc : TX X W c tc) (ha : SXs X W a t) (hb : SXs X W b u) : SX X W (.If c a b pos) (sIf tc t u) := by
  obtain ⟨T, p, r⟩ := hc.ex
  obtain ⟨U, p', r'⟩ := ha.ex
  obtain ⟨U2, p2, r2⟩ := hb.ex
  refine ⟨_, ps_if p p' p2, fun P G F ρ σ H D D' R h hd => ?_⟩
  refine r P G F ρ σ H _ D.xx _ R h (hd.xx σ) fun G1 ρ1 H1 c R1 s1 q => ?_
  cases c with
  | true => exact iteT (r' P G1 F ρ1 σ H1 D D' R1 (by rw [if_pos rfl] at q; exact q) (hd.mono s1))
  | false => exact iteF (r2 P G1 F ρ1 σ H1 D D' R1 (by rw [if_neg Bool.false_ne_true] at q; exact q) (hd.mono s1))
/-- x op= e -/
def sAug (i : Nat) (β : D → D → (D → Prop) → Prop) (te : AE) : AS := fun D ρ => match ρ[i]? with
  | some (.dat d) => te ρ (fun e ρ1 => β d e fun z => okSet ρ1 i ∧ D.nx (ρ1.set i (.dat z))) D.xx
  | _ => False
theorem s_aug {i : Nat} {x : Str} {op : Operator} {r : R2} {β : D → D → (D → Prop) → Prop} {pos' : Pos} (hN : X.N.Nodup) (ho : OpR X (inplaceOp op) r) (hb : B2 X.K r β) (he : EX X W e te) (hi : X.N[i]? = some x := by rfl) (hx : Loc X.env.scope x := by first | exact .inl rfl | exact .inr rfl)
    (hf : X.fn x = true ∨ X.env.scope.names.lookup x = some .local := by first | exact .inl rfl | exact .inr rfl | assumption) : SX X W (.AugAssign (.Name x pos') op e pos) (sAug i β te) := by
  obtain ⟨T, p, q⟩ := he.ex
  refine ⟨_, ps_aug (ti := r) hN hi hx p (fun pins s σ H x y v u Q I rx ry h => ho pins s σ H x y v u Q I rx ry h) hf, fun P G F ρ σ H D D' R h hd => ?_⟩
  unfold sAug at h
  split at h
  · rename_i d ed
    obtain ⟨v, g1, g2⟩ := R.dat i d ed
    refine ⟨v, g1, q P G F ρ σ H _ D.xx _ R h (hd.xx σ) fun G1 ρ1 H1 u e' R1 s1 ru h1 => ?_⟩
    exact hb G1 H1 d e' v u _ _ R1.sg (g2.mono s1) ru h1 fun J' H' z w g rz ⟨ok, k⟩ => hd.nx J' _ _ H' ((R1.grow g).setD ok rz) (s1.trans g.j) k
  · exact h.elim
/-! ### an own list in place -/
def sApp (i : Nat) (te : AE) : AS := fun D ρ => te ρ (fun d ρ1 => match ρ1[i]? with
  | some (.own b xs) => xs.length < sizeLine ∧ D.nx (ρ1.set i (.own b (xs ++ [d])))
  | _ => False) D.xx
/-- slot i holds a list of its own -/
def isOwn (ρ : List Sv) (i : Nat) : Prop := match ρ[i]? with
  | some (.own _ _) => True
  | _ => False
theorem isOwn.ex {ρ : List Sv} {i : Nat} (h : isOwn ρ i) : ∃ b xs, ρ[i]? = some (.own b xs) := by
  unfold isOwn at h
  split at h
  · rename_i b xs e; exact ⟨b, xs, e⟩
  · exact h.elim
theorem s_app {i : Nat} {x : Str} {p1 apos cpos : Pos} (he : EX X W e te) (hi : X.N[i]? = some x := by rfl) (hv : Vis X.env.scope x := by first | exact Or.inl rfl | exact Or.inr (Or.inl rfl) | exact Or.inr (Or.inr rfl)) (hd1 : (x == ("__debug__" : Str)) = false := by decide)
    (hcd : (x == ("__classdict__" : Str)) = false := by decide) (hp : ∀ T, PE X e T → PE X (.Call (.Attribute (.Name x p1) "append" apos) [e] [] cpos) (tBM X.K "list" rAppend (tVar i) (tCons T tNil)))
    (hs : swapsWith (.Call (.Attribute (.Name x p1) "append" apos) [e] [] cpos) none pos.line X.env = pure false := by rfl) :
    SX X W (.Expr (.Call (.Attribute (.Name x p1) "append" apos) [e] [] cpos) pos) (fun D ρ => isOwn ρ i ∧ sApp i te D ρ) := by
  obtain ⟨T, p, r⟩ := he.ex
  refine ⟨_, ps_expr (hp T p) hs, fun P G F ρ σ H D D' R ⟨h0, h⟩ hd => ?_⟩
  obtain ⟨b, xs, e0⟩ := h0.ex
  obtain ⟨a, vs, g1, g2, g3, g4, g5⟩ := R.own i b xs e0
  refine ⟨.ref a, g1, .inl ⟨rfl, _, .inl (.inl g2)⟩, r P G F ρ σ H _ D.xx _ R h (hd.xx σ) fun G1 ρ1 H1 v d R1 s1 rv q => ?_⟩
  split at q
  · rename_i b1 ys e1
    obtain ⟨a', us, k1, k2, k3, k4, k5⟩ := R1.own i b1 ys e1
    rw [g1] at k1
    cases k1
    refine ⟨a, us, v, rfl, rfl, k2, by rw [← k5.length]; exact q.1, hd.nx G1 _ σ _ (R1.write e1 g1 (k5.append (RpL.cons rv RpL.nil))) s1 q.2⟩
  · exact q.elim
/-- x[k] = e, x a list of its own -/
def sPut (i : Nat) (te tk : AE) : AS := fun D ρ => te ρ (fun d ρ1 => tk ρ1 (fun k ρ2 => match k, ρ2[i]? with
  | .int k, some (.own b xs) => ∃ j, ixN xs.length k = some j ∧ D.nx (ρ2.set i (.own b (xs.set j d)))
  | _, _ => False) D.xx) D.xx
theorem s_put {i : Nat} {x : Str} {p1 sp : Pos} {ek : Expr} {tk : AE} (he : EX X W e te) (hk : EX X W ek tk) (hi : X.N[i]? = some x := by rfl) (hv : Vis X.env.scope x := by first | exact Or.inl rfl | exact Or.inr (Or.inl rfl) | exact Or.inr (Or.inr rfl)) (hd1 : (x == ("__debug__" : Str)) = false := by decide)
    (hcd : (x == ("__classdict__" : Str)) = false := by decide)
    (ha : ∀ v, assign (.Subscript (.Name x p1) ek sp) X.env v = (do
      let ov ← holding [v] (eval (.Name x p1) X.env)
      let iv ← holding [v, ov] (eval ek X.env)
      standAt sp
      holding [v, ov, iv] (setItem ov iv v)
      release [v, ov, iv] []) := by intro _; rfl)
    (hs : swapsWithSole [.Subscript (.Name x p1) ek sp] e pos.line X.env = pure false := by rfl) (hw : swappedStores [.Subscript (.Name x p1) ek sp] e X.env = pure none := by rfl)
    (h1 : (assignEach [.Subscript (.Name x p1) ek sp] X.env).map (·.2) = [assign (.Subscript (.Name x p1) ek sp) X.env] := by rfl) : SX X W (.Assign [.Subscript (.Name x p1) ek sp] e pos) (fun D ρ => te ρ (fun d ρ1 => isOwn ρ1 i ∧ sPut i (fun _ Q _ => Q d ρ1) tk D ρ1) D.xx) := by
  obtain ⟨T, p, r⟩ := he.ex
  obtain ⟨U, p', r'⟩ := hk.ex
  refine ⟨_, ps_asg p (pg_sub (pe_var hi hv hd1 hcd) p' set_list ha) hs hw h1, fun P G F ρ σ H D D' R h hd => ?_⟩
  refine r P G F ρ σ H _ D.xx _ R h (hd.xx σ) fun G1 ρ1 H1 v d R1 s1 rv ⟨h0, h2⟩ => ?_
  obtain ⟨b, xs, e0⟩ := h0.ex
  obtain ⟨a, vs, g1, g2, g3, g4, g5⟩ := R1.own i b xs e0
  refine ⟨.ref a, g1, r' P G1 F ρ1 σ H1 _ D.xx _ R1 h2 ((hd.xx σ).mono s1) fun G2 ρ2 H2 u k R2 s2 ru q => ?_⟩
  split at q
  · rename_i k' b1 ys e1
    obtain ⟨j, hj, q⟩ := q
    obtain ⟨a', us, k1, k2, k3, k4, k5⟩ := R2.own i b1 ys e1
    rw [g1] at k1
    cases k1
    exact ⟨a, us, k', j, rfl, rp_int.mp ru, k2, by rw [← k5.length]; exact hj, hd.nx G2 _ σ _ (R2.write e1 g1 (k5.set (rv.mono s2) j)) (s1.trans s2) q⟩
  · exact q.elim
end
end VS
/-! VSg: loops and comprehensions. -/
namespace VS
open PySem PySem.Spec PyProof.Rows L2
/-! ### what is walked -/
/-- the walk J goes through the items ds, from the heap G on -/
structure Walk (K : PySem.W.Frag) (G : Hp) (J : It) (ds : List D) : Prop where
  go : ∀ (i : Nat) (H : Hp), Same G H → i < ds.length → J.go i H
  stop : ∀ (i : Nat) (H : Hp), Same G H → ds.length ≤ i → J.stop i H
  yld : ∀ (i : Nat) (G1 H H' : Hp) (x : V) (d : D), Same G G1 → Same G1 H → ds[i]? = some d → J.yld i H x H' → ∃ G2, Grow G1 H G2 H' ∧ Rp K G2 d x
abbrev AI := List Sv → (List D → List Sv → Prop) → KX → Prop
structure IX (X : Cx) (W : WX) (tg iter : Expr) (t : AI) : Prop where
  ex : ∃ T : TI, PI X tg iter T ∧ ∀ P G F ρ σ H (Q : List D → List Sv → Prop) (Z : KX) (R' : It → Hp → Prop), Rel X.K P G F ρ σ H → t ρ Q Z → XIn X W P G F σ Z →
    (∀ G' ρ' H' J ds, Rel X.K P G' F ρ' σ H' → Same G G' → Walk X.K G' J ds → Q ds ρ' → R' J H') → T σ H R'
theorem walk_list {K : PySem.W.Frag} {G : Hp} {a : Addr} {xs : List D} {vs : List V} (h2 : SqL K G a vs) (h3 : RpL K G xs vs) : Walk K G (Itl K a) xs := by
  refine ⟨fun i H s hi => ?_, fun i H s hi => ⟨vs, s.seq h2, by rw [← h3.length]; exact hi⟩, fun i G1 H H' x d s1 s2 e ⟨eH, y⟩ => ?_⟩
  · obtain ⟨v, e, _⟩ := h3.get (List.getElem?_eq_getElem hi)
    exact ⟨vs, v, s.seq h2, e⟩
  · subst eH
    obtain ⟨v, e2, rv⟩ := h3.get e
    have q := y vs ((s1.trans s2).seq h2)
    rw [e2] at q
    cases q
    exact ⟨G1, Grow.refl s2, rv.mono s1⟩
theorem walk_tup {K : PySem.W.Frag} {G : Hp} {a : Addr} {xs : List D} {vs : List V} (h2 : SqT K G a vs) (h3 : RpL K G xs vs) : Walk K G (Itt K a) xs := by
  refine ⟨fun i H s hi => ?_, fun i H s hi => ⟨vs, Same.seqT s h2, by rw [← h3.length]; exact hi⟩, fun i G1 H H' x d s1 s2 e ⟨eH, y⟩ => ?_⟩
  · obtain ⟨v, e, _⟩ := h3.get (List.getElem?_eq_getElem hi)
    exact ⟨vs, v, Same.seqT s h2, e⟩
  · subst eH
    obtain ⟨v, e2, rv⟩ := h3.get e
    have q := y vs (Same.seqT (s1.trans s2) h2)
    rw [e2] at q
    cases q
    exact ⟨G1, Grow.refl s2, rv.mono s1⟩
def rangeD (lo : Int) (n : Nat) : List D := (List.range n).map fun i => D.int (lo + (i : Nat))
theorem rangeD_len (lo : Int) (n : Nat) : (rangeD lo n).length = n := by simp [rangeD]
theorem rangeD_get {lo : Int} {n i : Nat} {d : D} (h : (rangeD lo n)[i]? = some d) : i < n ∧ d = .int (lo + (i : Nat)) := by
  unfold rangeD at h
  rw [List.getElem?_map] at h
  have hi : i < n := by
    by_cases q : i < n
    · exact q
    · rw [List.getElem?_eq_none (by simpa using q)] at h
      cases h
  refine ⟨hi, ?_⟩
  rw [List.getElem?_range hi] at h
  exact (Option.some.inj h).symm
theorem walk_range {K : PySem.W.Frag} {G : Hp} {lo : Int} {n : Nat} : Walk K G (Itr lo n) (rangeD lo n) := by
  refine ⟨fun i H s hi => by rw [rangeD_len] at hi; exact hi, fun i H s hi => by rw [rangeD_len] at hi; exact hi, fun i G1 H H' x d s1 s2 e ⟨eH, y⟩ => ?_⟩
  obtain ⟨_, rfl⟩ := rangeD_get e
  subst eH y
  exact ⟨G1, Grow.refl s2, rp_int.mpr rfl⟩
def signsD (x : Str) : List D := x.cps.toList.map fun c => D.str ⟨#[c]⟩
theorem walk_str {K : PySem.W.Frag} {G : Hp} {x : Str} : Walk K G (Its x) (signsD x) := by
  refine ⟨fun i H s hi => by show i < x.cps.size; simpa [signsD] using hi, fun i H s hi => by show x.cps.size ≤ i; simpa [signsD] using hi, fun i G1 H H' v d s1 s2 e ⟨eH, c, hc, y⟩ => ?_⟩
  subst eH y
  unfold signsD at e
  rw [List.getElem?_map, Array.getElem?_toList, hc] at e
  cases e
  exact ⟨G1, Grow.refl s2, rp_str.mpr rfl⟩
section
variable {X : Cx} {W : WX} {tg e : Expr} {te : AE}
/-- two ways of one walk -/
theorem PI.or {iter : Expr} {t u : TI} (h : PI X tg iter t) (k : PI X tg iter u) : PI X tg iter (fun σ H R => t σ H R ∨ u σ H R) := ⟨fun pins s σ H R I q => q.elim (h.run pins s σ H R I) (k.run pins s σ H R I)⟩
def iRange1 (t : AA) : AI := fun ρ Q Z => t ρ (fun ds ρ1 => match ds with
  | [.int n] => -(2 ^ 62) ≤ n ∧ n < 2 ^ 62 ∧ Q (rangeD 0 n.toNat) ρ1
  | _ => False) Z
theorem i_range1 {p pos : Pos} {t : AA} (hg : Gl X "range") (hm : X.mg "range" = none) (ha : EXs X W [e] t) (hs : starEach [e] X.env = [(false, eval e X.env)] := by rfl) : IX X W tg (.Call (.Name "range" p) [e] [] pos) (iRange1 t) := by
  obtain ⟨T, p, r⟩ := ha.ex
  refine ⟨_, pi_range1 hg hm p hs, fun P G F ρ σ H Q Z R' R h hz hq => ?_⟩
  refine r P G F ρ σ H _ Z _ R h hz fun G1 ρ1 H1 vs ds R1 s1 rs q => ?_
  split at q
  · obtain ⟨v, rfl, rv⟩ := rpl1 rs
    exact ⟨_, by rw [rp_int.mp rv], q.1, q.2.1, hq G1 ρ1 H1 _ _ R1 s1 walk_range q.2.2⟩
  · exact q.elim
def iRange2 (t : AA) : AI := fun ρ Q Z => t ρ (fun ds ρ1 => match ds with
  | [.int m, .int n] => (-(2 ^ 62) ≤ m ∧ m < 2 ^ 62 ∧ -(2 ^ 62) ≤ n ∧ n < 2 ^ 62) ∧ Q (rangeD m (n - m).toNat) ρ1
  | _ => False) Z
theorem i_range2 {p pos : Pos} {e2 : Expr} {t : AA} (hg : Gl X "range") (hm : X.mg "range" = none) (ha : EXs X W [e, e2] t) (hs : starEach [e, e2] X.env = [(false, eval e X.env), (false, eval e2 X.env)] := by rfl) (hs2 : starEach [e2] X.env = [(false, eval e2 X.env)] := by rfl) : IX X W tg (.Call (.Name "range" p) [e, e2] [] pos) (iRange2 t) := by
  obtain ⟨T, p, r⟩ := ha.ex
  refine ⟨_, pi_range2 hg hm p hs hs2, fun P G F ρ σ H Q Z R' R h hz hq => ?_⟩
  refine r P G F ρ σ H _ Z _ R h hz fun G1 ρ1 H1 vs ds R1 s1 rs q => ?_
  split at q
  · obtain ⟨v, u, rfl, rv, ru⟩ := rpl2 rs
    exact ⟨_, _, by rw [rp_int.mp rv, rp_int.mp ru], q.1, hq G1 ρ1 H1 _ _ R1 s1 walk_range q.2⟩
  · exact q.elim
/-- enumerate(xs) -/
def enumD (xs : List D) : List D := xs.mapIdx fun i d => D.tup [.int (i : Nat), d]
theorem enumD_len (xs : List D) : (enumD xs).length = xs.length := by simp [enumD]
theorem walk_enum {K : PySem.W.Frag} {G : Hp} {a : Addr} {xs : List D} {vs : List V} (h2 : SqL K G a vs) (h3 : RpL K G xs vs) : Walk K G (Ite K a) (enumD xs) := by
  refine ⟨fun i H s hi => ?_, fun i H s hi => ⟨vs, s.seq h2, by rw [← h3.length]; rw [enumD_len] at hi; exact hi⟩, fun i G1 H H' x d s1 s2 e ⟨T, y, ex, hT, eH, hy⟩ => ?_⟩
  · rw [enumD_len] at hi
    obtain ⟨v, e, _⟩ := h3.get (List.getElem?_eq_getElem hi)
    exact ⟨vs, v, s.seq h2, e⟩
  · subst ex eH
    unfold enumD at e
    rw [List.getElem?_mapIdx] at e
    cases q : xs[i]? with
    | none => rw [q] at e; cases e
    | some d0 =>
      rw [q] at e
      cases e
      obtain ⟨v, e2, rv⟩ := h3.get q
      have q2 := hy vs ((s1.trans s2).seq h2)
      rw [e2] at q2
      have ev : v = y := Option.some.inj q2
      rw [ev] at rv
      have g := Grow.new (o := .tup [.int (i : Nat), y]) s2 hT
      exact ⟨_, g, rp_tup.mpr ⟨T, _, rfl, SqT.of upd_same, RpL.cons (rp_int.mpr rfl) (RpL.cons (rv.mono (s1.trans g.j)) RpL.nil)⟩⟩
def iEnumD (t : AA) : AI := fun ρ Q Z => t ρ (fun ds ρ1 => match ds with
  | [.lst xs] => Q (enumD xs) ρ1
  | _ => False) Z
/-- zip(xs, ys) -/
def zipD (xs ys : List D) : List D := List.zipWith (fun x y => D.tup [x, y]) xs ys
theorem walk_zip {K : PySem.W.Frag} {G : Hp} {a b : Addr} {xs ys : List D} {vs us : List V} (h2 : SqL K G a vs) (h3 : RpL K G xs vs) (g2 : SqL K G b us) (g3 : RpL K G ys us) : Walk K G (Itz K a b) (zipD xs ys) := by
  have hl : (zipD xs ys).length = min xs.length ys.length := by simp [zipD]
  refine ⟨fun i H s hi => ?_, fun i H s hi => ⟨vs, us, s.seq h2, s.seq g2, by rw [← h3.length, ← g3.length]; rw [hl] at hi; omega⟩, fun i G1 H H' x d s1 s2 e ⟨T, y, z, ex, hT, eH, hy, hz⟩ => ?_⟩
  · rw [hl] at hi
    obtain ⟨v, e, _⟩ := h3.get (List.getElem?_eq_getElem (show i < xs.length by omega))
    obtain ⟨u, e', _⟩ := g3.get (List.getElem?_eq_getElem (show i < ys.length by omega))
    exact ⟨vs, us, v, u, s.seq h2, s.seq g2, e, e'⟩
  · subst ex eH
    unfold zipD at e
    rw [List.getElem?_zipWith] at e
    cases q : xs[i]? with
    | none => rw [q] at e; cases e
    | some d0 =>
      cases q' : ys[i]? with
      | none => rw [q, q'] at e; cases e
      | some d1 =>
        rw [q, q'] at e
        cases e
        obtain ⟨v, e2, rv⟩ := h3.get q
        obtain ⟨u, e3, ru⟩ := g3.get q'
        have q2 := hy vs ((s1.trans s2).seq h2)
        rw [e2] at q2
        have ev : v = y := Option.some.inj q2
        have q3 := hz us ((s1.trans s2).seq g2)
        rw [e3] at q3
        have eu : u = z := Option.some.inj q3
        rw [ev] at rv
        rw [eu] at ru
        have g := Grow.new (o := .tup [y, z]) s2 hT
        exact ⟨_, g, rp_tup.mpr ⟨T, _, rfl, SqT.of upd_same, RpL.cons (rv.mono (s1.trans g.j)) (RpL.cons (ru.mono (s1.trans g.j)) RpL.nil)⟩⟩
def iZipD (t : AA) : AI := fun ρ Q Z => t ρ (fun ds ρ1 => match ds with
  | [.lst xs, .lst ys] => Q (zipD xs ys) ρ1
  | _ => False) Z
/-! ### for -/
def aLoop (g : AG) (tb : AS) (D : AEnds) : List VS.D → List Sv → Prop
  | [], ρ => D.nx ρ
  | d :: ds, ρ => g d ρ fun ρ1 => tb { D with nx := aLoop g tb D ds, ct := aLoop g tb D ds, bk := D.nx } ρ1
def sFor (ti : AI) (g : AG) (tb : AS) : AS := fun D ρ => ti ρ (fun ds ρ1 => aLoop g tb D ds ρ1) D.xx
theorem s_for {iter : Expr} {body : List Stmt} {ti : AI} {g : AG} {tb : AS} {pos : Pos} (hp : PassesOwn (model X.prog X.w) X.A X.env X.xe) (hc : X.calm = true) (hi : IX X W tg iter ti) (hg : GX X tg g) (hb : SXs X W body tb)
    (hs : ∀ x, foldedSetIterable iter X.env x = pure x := by intro _; rfl) : SX X W (.For tg iter body [] pos) (sFor ti g tb) := by
  obtain ⟨T, p, r⟩ := hi.ex
  obtain ⟨Tg, pg, rg⟩ := hg.ex
  obtain ⟨Tb, pb, rb⟩ := hb.ex
  refine ⟨_, ps_for hp hc p pg pb hs, fun P G F ρ σ H D D' R h hd => ?_⟩
  refine r P G F ρ σ H _ D.xx _ R h (hd.xx σ) fun G1 ρ1 H1 J ds R1 s1 wk q => ?_
  refine ⟨fun i m σ' H' => ∃ G' ρ', Rel X.K P G' F ρ' σ' H' ∧ Same G1 G' ∧ m = ds.length - i ∧ i ≤ ds.length ∧ aLoop g tb D (ds.drop i) ρ', ⟨_, G1, ρ1, R1, Same.refl _, rfl, Nat.zero_le _, q⟩, ?_⟩
  rintro i m σ' H' ⟨G', ρ', R', s', rfl, hi, q'⟩
  by_cases hlt : i < ds.length
  · refine .inr ⟨wk.go i H' (s'.trans R'.sg) hlt, fun σ2 H2 => ∃ G' ρ', Rel X.K P G' F ρ' σ2 H2 ∧ Same G1 G' ∧ aLoop g tb D (ds.drop (i + 1)) ρ', fun σ2 H2 ⟨G2, ρ2, R2, s2, q2⟩ => ⟨_, by omega, G2, ρ2, R2, s2, rfl, hlt, q2⟩, fun x H2 y => ?_⟩
    rw [List.drop_eq_getElem_cons hlt] at q'
    obtain ⟨G2, gr, rv⟩ := wk.yld i G' H' H2 x ds[i] s' R'.sg (List.getElem?_eq_getElem hlt) y
    refine rg P G2 F ρ' σ' H2 _ x _ _ (R'.grow gr) rv q' fun ρ3 σ3 R3 q3 => ?_
    have s3 : Same G1 G2 := s'.trans gr.j
    refine rb P G2 F ρ3 σ3 H2 _ _ R3 q3 ⟨fun G4 ρ4 σ4 H4 R4 s4 q4 => ⟨G4, ρ4, R4, s3.trans s4, q4⟩, fun G4 ρ4 σ4 H4 r v R4 s4 => hd.rt G4 ρ4 σ4 H4 r v R4 ((s1.trans s3).trans s4), fun G4 ρ4 σ4 H4 R4 s4 => hd.nx G4 ρ4 σ4 H4 R4 ((s1.trans s3).trans s4),
      fun G4 ρ4 σ4 H4 R4 s4 q4 => ⟨G4, ρ4, R4, s3.trans s4, q4⟩, fun σ4 => (hd.xx σ4).mono (s1.trans s3)⟩
  · have e : i = ds.length := by omega
    refine .inl ⟨wk.stop i H' (s'.trans R'.sg) (by omega), ?_⟩
    rw [e, List.drop_length] at q'
    exact hd.nx G' ρ' σ' H' R' (s1.trans s') q'
/-! ### while -/
def sWhile (tc : AT) (tb : AS) : AS := fun D ρ => ∃ I : Nat → List Sv → Prop, (∃ m, I m ρ) ∧ ∀ m ρ, I m ρ → tc ρ (fun b ρ1 => if b = true then tb { D with nx := fun ρ2 => ∃ m', m' < m ∧ I m' ρ2, ct := fun ρ2 => ∃ m', m' < m ∧ I m' ρ2, bk := D.nx } ρ1 else D.nx ρ1) D.xx
theorem s_while {c : Expr} {body : List Stmt} {tc : AT} {tb : AS} {pos : Pos} (hp : PassesOwn (model X.prog X.w) X.A X.env X.xe) (hc : TX X W c tc) (hb : SXs X W body tb) : SX X W (.While c body [] pos) (sWhile tc tb) := by
  obtain ⟨T, p, r⟩ := hc.ex
  obtain ⟨Tb, pb, rb⟩ := hb.ex
  refine ⟨_, ps_while hp p pb, fun P G F ρ σ H D D' R h hd => ?_⟩
  obtain ⟨I, ⟨m0, h0⟩, step⟩ := h
  refine ⟨fun m σ' H' => ∃ G' ρ', Rel X.K P G' F ρ' σ' H' ∧ Same G G' ∧ I m ρ', ⟨m0, G, ρ, R, Same.refl _, h0⟩, ?_⟩
  rintro m σ' H' ⟨G', ρ', R', s', hI⟩
  refine r P G' F ρ' σ' H' _ D.xx _ R' (step m ρ' hI) ((hd.xx σ').mono s') fun G1 ρ1 H1 b R1 s1 q => ?_
  cases b with
  | false => exact iteF (hd.nx G1 ρ1 σ' H1 R1 (s'.trans s1) (by rw [if_neg Bool.false_ne_true] at q; exact q))
  | true =>
    refine iteT ⟨fun σ2 H2 => ∃ m', m' < m ∧ ∃ G' ρ', Rel X.K P G' F ρ' σ2 H2 ∧ Same G G' ∧ I m' ρ', fun σ2 H2 q => q, ?_⟩
    rw [if_pos rfl] at q
    exact rb P G1 F ρ1 σ' H1 _ _ R1 q ⟨fun G4 ρ4 σ4 H4 R4 s4 ⟨m', hm, q4⟩ => ⟨m', hm, G4, ρ4, R4, (s'.trans s1).trans s4, q4⟩, fun G4 ρ4 σ4 H4 r v R4 s4 => hd.rt G4 ρ4 σ4 H4 r v R4 ((s'.trans s1).trans s4), fun G4 ρ4 σ4 H4 R4 s4 => hd.nx G4 ρ4 σ4 H4 R4 ((s'.trans s1).trans s4),
      fun G4 ρ4 σ4 H4 R4 s4 ⟨m', hm, q4⟩ => ⟨m', hm, G4, ρ4, R4, (s'.trans s1).trans s4, q4⟩, fun σ4 => (hd.xx σ4).mono (s'.trans s1)⟩
end
end VS
/-! VSh: comprehensions. -/
namespace VS
open PySem PySem.Spec PyProof.Rows L2
/-! ### what a family of contexts can do -/
def wpE (C : Cx → Prop) (e : Expr) : TE := fun σ H Q => ∀ X, C X → ∀ pins s, Inv X pins σ H s → wpAny (model X.prog X.w) X.A (eval e X.env) (EP X pins σ Q) X.xe s
def wpG (C : Cx → Prop) (tg : Expr) : TG := fun v σ H Q => ∀ X, C X → ∀ pins s u, Inv X pins σ H s → RelV v u → wpAny (model X.prog X.w) X.A (assign tg X.env u) (fun _ s' => ∃ σ' H', Inv X pins σ' H' s' ∧ Q σ' H') X.xe s
def wpTs (C : Cx → Prop) (ifs : List Expr) : TT := fun σ H Q => ∀ X, C X → ∀ pins s, Inv X pins σ H s →
  wpAny (model X.prog X.w) X.A (forIn ifs true fun c r => if r = true then do let ok ← isTrue c X.env (eval c X.env); pure (ForInStep.yield ok) else pure (ForInStep.yield r)) (TP X pins σ Q) X.xe s
theorem pe_wp {C : Cx → Prop} {e : Expr} {X : Cx} (h : C X) : PE X e (wpE C e) := ⟨fun pins s σ H Q I q => q X h pins s I⟩
theorem pg_wp {C : Cx → Prop} {e : Expr} {X : Cx} (h : C X) : PG X e (wpG C e) := ⟨fun pins s σ H v u Q I r q => q X h pins s u I r⟩
theorem pts_wp {C : Cx → Prop} {es : List Expr} {X : Cx} (h : C X) : PTs X es (wpTs C es) := ⟨fun pins s σ H Q I q => q X h pins s I⟩
/-- no exception is wanted -/
abbrev noW : WX := fun _ _ _ _ => False
abbrev noX : KX := fun _ _ => False
theorem xin_no {X : Cx} {P : List (Nat × Addr)} {G F : Hp} {σ : St} : XIn X noW P G F σ noX := fun _ _ _ _ _ _ _ _ _ z => z.elim
/-- a clause's tests -/
structure TXs (X : Cx) (W : WX) (es : List Expr) (t : AT) : Prop where
  ex : ∃ T : TT, PTs X es T ∧ ∀ P G F ρ σ H (Q : Bool → List Sv → Prop) (Z : KX) (Q' : Bool → Hp → Prop), Rel X.K P G F ρ σ H → t ρ Q Z → XIn X W P G F σ Z →
    (∀ G' ρ' H' b, Rel X.K P G' F ρ' σ H' → Same G G' → Q b ρ' → Q' b H') → T σ H Q'
def aYes : AT := fun ρ Q _ => Q true ρ
theorem tx_nil {X : Cx} {W : WX} : TXs X W [] aYes := ⟨_, pts_nil, fun P G F ρ σ H Q Z Q' R h hz hq => hq G ρ H true R (Same.refl _) h⟩
theorem tx_one {X : Cx} {W : WX} {c : Expr} {t : AT} (h : TX X W c t) : TXs X W [c] t := by
  obtain ⟨T, p, r⟩ := h.ex
  exact ⟨_, pts_one p, r⟩
/-! ### slots forgotten and put back -/
def noOwn (ρ : List Sv) (i : Nat) : Prop := match ρ[i]? with
  | some (.own _ _) => False
  | some (.tre _) => False
  | _ => True
def wipeA (ρ : List Sv) : List Nat → List Sv
  | [] => ρ
  | v :: vs => (wipeA ρ vs).set v .un
def restA (ρ0 ρ3 : List Sv) : List Nat → List Sv
  | [] => ρ3
  | v :: vs => (restA ρ0 ρ3 vs).set v (ρ0.getD v .un)
theorem noOwn.ne {ρ : List Sv} {i : Nat} (h : noOwn ρ i) {b : Bool} {xs : List D} : ρ[i]? ≠ some (.own b xs) := fun e => by
  unfold noOwn at h
  rw [e] at h
  exact h
theorem noOwn.nt {ρ : List Sv} {i : Nat} (h : noOwn ρ i) {t : Tr} : ρ[i]? ≠ some (.tre t) := fun e => by
  unfold noOwn at h
  rw [e] at h
  exact h
theorem restA_out {ρ0 ρ3 : List Sv} {i : Nat} : ∀ {vs : List Nat}, i ∉ vs → (restA ρ0 ρ3 vs)[i]? = ρ3[i]?
  | [], _ => rfl
  | v :: vs, h => by
    simp only [List.mem_cons, not_or] at h
    unfold restA
    rw [set_ne h.1]
    exact restA_out h.2
theorem restA_in {ρ0 ρ3 : List Sv} {i : Nat} {s : Sv} : ∀ {vs : List Nat}, i ∈ vs → (restA ρ0 ρ3 vs)[i]? = some s → s = ρ0.getD i .un
  | v :: vs, h, e => by
    unfold restA at e
    rcases get_set e with ⟨rfl, z⟩ | ⟨hj, e⟩
    · exact z
    · exact restA_in ((List.mem_cons.mp h).resolve_left hj) e
theorem restA_len {ρ0 ρ3 : List Sv} : ∀ {vs : List Nat}, (restA ρ0 ρ3 vs).length = ρ3.length
  | [] => rfl
  | v :: vs => by
    unfold restA
    rw [List.length_set]
    exact restA_len
section
variable {K : PySem.W.Frag} {P : List (Nat × Addr)} {G F G' F' : Hp} {ρ : List Sv} {σ : St} {H H' : Hp}
theorem Rel.wipe1 (R : Rel K P G F ρ σ H) {i : Nat} (h : noOwn ρ i) : Rel K P G F (ρ.set i .un) (σ.set i none) H := by
  refine ⟨by rw [List.length_set, List.length_set]; exact R.len, R.sg, R.sf, R.gf, fun j e q => ?_, fun j b ys q => ?_, fun j k a b ys c zs q1 q2 q3 q4 => ?_, fun p hp => ?_, fun j ys q => ?_, R.tr.setN (fun _ _ z => by cases z) fun _ z => by cases z⟩
  · rcases get_set q with ⟨_, z⟩ | ⟨hj, q⟩
    · cases z
    · rw [set_ne hj]
      exact R.dat j e q
  · rcases get_set q with ⟨_, z⟩ | ⟨hj, q⟩
    · cases z
    · rw [set_ne hj]
      exact R.own j b ys q
  · rcases get_set q1 with ⟨_, z⟩ | ⟨hj, q1⟩
    · cases z
    rcases get_set q2 with ⟨_, z⟩ | ⟨hk, q2⟩
    · cases z
    rw [set_ne hj] at q3
    rw [set_ne hk] at q4
    exact R.ne j k a b ys c zs q1 q2 q3 q4
  · obtain ⟨g1, zs, g2⟩ := R.pin p hp
    have hne : p.1 ≠ i := fun z => h.ne (by rw [← z]; exact g2)
    exact ⟨by rw [set_ne hne]; exact g1, zs, by rw [set_ne hne]; exact g2⟩
  · rcases get_set q with ⟨_, z⟩ | ⟨_, q⟩
    · cases z
    · exact R.pinc j ys q
theorem noOwn_set {ρ : List Sv} {i j : Nat} (h : noOwn ρ i) : noOwn (ρ.set j .un) i := by
  unfold noOwn
  cases e : (ρ.set j .un)[i]? with
  | none => trivial
  | some s =>
    rcases get_set e with ⟨_, z⟩ | ⟨_, q⟩
    · rw [z]; trivial
    · unfold noOwn at h
      rw [q] at h
      exact h
theorem noOwn_wipe {ρ : List Sv} {i : Nat} (h : noOwn ρ i) : ∀ vs : List Nat, noOwn (wipeA ρ vs) i
  | [] => h
  | v :: vs => noOwn_set (noOwn_wipe h vs)
theorem Rel.wipe (R : Rel K P G F ρ σ H) : ∀ {vs : List Nat}, (∀ i ∈ vs, noOwn ρ i) → Rel K P G F (wipeA ρ vs) (L2.wipe σ vs) H
  | [], _ => R
  | v :: vs, h => by
    unfold wipeA L2.wipe
    exact (R.wipe fun i hi => h i (List.mem_cons_of_mem _ hi)).wipe1 (noOwn_wipe (h v (List.mem_cons_self ..)) vs)
theorem Rel.rest {ρ0 ρ3 : List Sv} {σ2 : St} {G0 H0 : Hp} {vs : List Nat} (R0 : Rel K P G0 F' ρ0 σ H0) (R : Rel K P G F ρ3 σ2 H) (s : Same G0 G) (hw : L2.wipe σ2 vs = L2.wipe σ vs) (hn : ∀ i ∈ vs, noOwn ρ0 i) : Rel K P G F (restA ρ0 ρ3 vs) σ H := by
  have ho : ∀ {i : Nat}, i ∉ vs → σ2[i]? = σ[i]? := fun {i} hi => by
    rw [← wipe_out (σ := σ2) hi, ← wipe_out (σ := σ) hi, hw]
  have hl : ρ3.length = σ.length := by
    rw [R.len, ← wipe_length σ2 vs, ← wipe_length σ vs, hw]
  have own_out : ∀ {i : Nat} {b : Bool} {xs : List D}, (restA ρ0 ρ3 vs)[i]? = some (.own b xs) → i ∉ vs ∧ ρ3[i]? = some (.own b xs) := fun {i b xs} e => by
    by_cases hi : i ∈ vs
    · have z := restA_in hi e
      rw [List.getD_eq_getElem?_getD] at z
      cases q : ρ0[i]? with
      | none => rw [q] at z; cases z
      | some t => rw [q] at z; exact absurd (by rw [q]; exact congrArg some z.symm) (hn i hi).ne
    · rw [restA_out hi] at e
      exact ⟨hi, e⟩
  have tre_out : ∀ {i : Nat} {t : Tr}, (restA ρ0 ρ3 vs)[i]? = some (.tre t) → i ∉ vs ∧ ρ3[i]? = some (.tre t) := fun {i t} e => by
    by_cases hi : i ∈ vs
    · have z := restA_in hi e
      rw [List.getD_eq_getElem?_getD] at z
      cases q : ρ0[i]? with
      | none => rw [q] at z; cases z
      | some t => rw [q] at z; exact absurd (by rw [q]; exact congrArg some z.symm) (hn i hi).nt
    · rw [restA_out hi] at e
      exact ⟨hi, e⟩
  refine ⟨by rw [restA_len]; exact hl, R.sg, R.sf, R.gf, fun i d e => ?_, fun i b xs e => ?_, fun i j a b xs c ys e1 e2 e3 e4 => ?_, fun p hp => ?_, fun i xs e => ?_, R.tr.step (fun i t e => ⟨(tre_out e).2, by rw [ho (tre_out e).1]⟩) (Same.refl _) (fun i t a e ha => ?_) fun j c ys a i t e1 e2 e3 => ?_⟩
  · by_cases hi : i ∈ vs
    · have z := restA_in hi e
      rw [List.getD_eq_getElem?_getD] at z
      cases q : ρ0[i]? with
      | none => rw [q] at z; cases z
      | some t =>
        rw [q] at z
        obtain ⟨v, g1, g2⟩ := R0.dat i d (by rw [q]; exact congrArg some z.symm)
        exact ⟨v, g1, g2.mono s⟩
    · rw [restA_out hi] at e
      rw [← ho hi]
      exact R.dat i d e
  · obtain ⟨hi, e⟩ := own_out e
    rw [← ho hi]
    exact R.own i b xs e
  · obtain ⟨hi, e1⟩ := own_out e1
    obtain ⟨hj, e2⟩ := own_out e2
    rw [← ho hi] at e3
    rw [← ho hj] at e4
    exact R.ne i j a b xs c ys e1 e2 e3 e4
  · obtain ⟨g1, zs, g2⟩ := R.pin p hp
    obtain ⟨k1, ws, k2⟩ := R0.pin p hp
    have hi : p.1 ∉ vs := fun z => (hn _ z).ne k2
    exact ⟨k1, zs, by rw [restA_out hi]; exact g2⟩
  · obtain ⟨hi, e⟩ := own_out e
    exact R.pinc i xs e
  · obtain ⟨_, g2, g3⟩ := R.tr.ex (tre_out e).2 ha
    exact ⟨rfl, g2, g3⟩
  · obtain ⟨hj, e1⟩ := own_out e1
    rw [← ho hj] at e2
    exact R.tr.own i t j c ys a (tre_out e3).2 e1 e2
theorem Rel.frame (R : Rel K P G F ρ σ H) {p : Addr} {o : HO} (h : H p = none) : Rel K P G (upd F p o) ρ σ (upd H p o) where
  len := R.len
  sg := R.sg.trans (same_new h)
  sf := same_upd2 R.sf
  gf := fun a u e => by
    by_cases ha : a = p
    · rw [ha]; exact R.sg.free h
    · rw [upd_ne ha] at e; exact R.gf a u e
  dat := R.dat
  own := fun i b xs e => by
    obtain ⟨a, vs, h1, h2, h3, h4, h5⟩ := R.own i b xs e
    refine ⟨a, vs, h1, same_new h _ _ h2, h3, ?_, h5⟩
    rw [upd_ne (ne_of_none h2 h)]
    exact h4
  ne := R.ne
  pin := R.pin
  pinc := R.pinc
  tr := R.tr.same (Same.refl _) fun i t a e ha => by
    obtain ⟨⟨vs, g1⟩, g2, g3⟩ := R.tr.ex e ha
    have hne : a ≠ p := ne_of_none g1 h
    exact ⟨by rw [upd_ne hne], g2, by rw [upd_ne hne]; exact g3⟩
theorem Rel.bump {p : Addr} {o : HO} (R : Rel K P G (upd F p o) ρ σ H) (o' : HO) : Rel K P G (upd F p o') ρ σ (upd H p o') where
  len := R.len
  sg := fun a u e => by
    have hp := R.gf p o upd_same
    rw [upd_ne (ne_of_none e hp)]
    exact R.sg _ _ e
  sf := fun a u e => by
    by_cases ha : a = p
    · rw [ha, upd_same] at e; rw [ha, upd_same]; exact e
    · rw [upd_ne ha] at e; rw [upd_ne ha]; exact R.sf a u (by rw [upd_ne ha]; exact e)
  gf := fun a u e => by
    by_cases ha : a = p
    · rw [ha]; exact R.gf p o upd_same
    · rw [upd_ne ha] at e; exact R.gf a u (by rw [upd_ne ha]; exact e)
  dat := R.dat
  own := fun i b xs e => by
    obtain ⟨a, vs, h1, h2, h3, h4, h5⟩ := R.own i b xs e
    have ha : a ≠ p := fun z => by rw [z, upd_same] at h4; cases h4
    rw [upd_ne ha] at h4
    exact ⟨a, vs, h1, by rw [upd_ne ha]; exact h2, h3, by rw [upd_ne ha]; exact h4, h5⟩
  ne := R.ne
  pin := R.pin
  pinc := R.pinc
  tr := R.tr.same (Same.refl _) fun i t a e ha => by
    obtain ⟨_, g2, g3⟩ := R.tr.ex e ha
    have hne : a ≠ p := fun z => by rw [z, upd_same] at g3; cases g3
    rw [upd_ne hne] at g3
    exact ⟨by rw [upd_ne hne], g2, by rw [upd_ne hne]; exact g3⟩
theorem Rel.weakF (R : Rel K P G F' ρ σ H) (s : Same F F') : Rel K P G F ρ σ H where
  len := R.len
  sg := R.sg
  sf := s.trans R.sf
  gf := fun a u e => R.gf a u (s a u e)
  dat := R.dat
  own := fun i b xs e => by
    obtain ⟨a, vs, h1, h2, h3, h4, h5⟩ := R.own i b xs e
    exact ⟨a, vs, h1, h2, h3, s.free h4, h5⟩
  ne := R.ne
  pin := R.pin
  pinc := R.pinc
  tr := R.tr.same (Same.refl _) fun i t a e ha => by
    obtain ⟨_, g2, g3⟩ := R.tr.ex e ha
    exact ⟨rfl, g2, s.free g3⟩
end
/-! ### [elt for target in iter if ..] -/
def aComp (g : AG) (tt : AT) (te : AE) (vs : List Nat) (Q : List D → List Sv → Prop) : List D → List D → List Sv → Prop
  | [], acc, ρ => Q acc ρ
  | d :: ds, acc, ρ => g d (wipeA ρ vs) fun ρ1 => tt ρ1 (fun b ρ2 => if b = true then te ρ2 (fun y ρ3 => acc.length < sizeLine ∧ aComp g tt te vs Q ds (acc ++ [y]) (restA ρ ρ3 vs)) noX else aComp g tt te vs Q ds acc (restA ρ ρ2 vs)) noX
def oLc (ti : AI) (g : AG) (tt : AT) (te : AE) (vs : List Nat) : AO := fun ρ Q Z => ti ρ (fun ds ρ1 => (∀ i ∈ vs, noOwn ρ1 i) ∧ aComp g tt te vs Q ds [] ρ1) Z
/-- g stores only in the slots vs -/
def StoresIn (X : Cx) (tg : Expr) (vs : List Nat) (g : AG) : Prop := ∃ T : TG, PG X tg T ∧ ∀ P G F ρ σ H d v (Q : List Sv → Prop) (Q' : St → Hp → Prop), Rel X.K P G F ρ σ H → Rp X.K G d v → g d ρ Q → (∀ ρ' σ', Rel X.K P G F ρ' σ' H → wipe σ' vs = wipe σ vs → Q ρ' → Q' σ' H) → T v σ H Q'
theorem wipe_set {σ : St} {i : Nat} {x : Option V} : ∀ {vs : List Nat}, i ∈ vs → wipe (σ.set i x) vs = wipe σ vs
  | v :: vs, h => by
    unfold wipe
    by_cases e : i ∈ vs
    · rw [wipe_set e]
    · have hv : i = v := (List.mem_cons.mp h).resolve_right e
      subst hv
      refine List.ext_getElem? fun j => ?_
      by_cases hj : j = i
      · subst hj
        by_cases hl : j < σ.length
        · rw [set_eq (by rw [wipe_length, List.length_set]; exact hl), set_eq (by rw [wipe_length]; exact hl)]
        · rw [List.getElem?_eq_none (by rw [List.length_set, wipe_length, List.length_set]; omega), List.getElem?_eq_none (by rw [List.length_set, wipe_length]; omega)]
      · rw [set_ne hj, set_ne hj]
        by_cases hm : j ∈ vs
        · have f : ∀ (τ : St) (ws : List Nat), j ∈ ws → (wipe τ ws)[j]? = if j < τ.length then some none else none := fun τ ws hw => by
            induction ws with
            | nil => cases hw
            | cons w ws ih =>
              unfold wipe
              by_cases hw2 : j = w
              · subst hw2
                by_cases hl : j < τ.length
                · rw [if_pos hl, set_eq (by rw [wipe_length]; exact hl)]
                · rw [if_neg hl, List.getElem?_eq_none (by rw [List.length_set, wipe_length]; omega)]
              · rw [set_ne hw2]
                exact ih ((List.mem_cons.mp hw).resolve_left hw2)
          rw [f _ _ hm, f _ _ hm, List.length_set]
        · rw [wipe_out hm, wipe_out hm, set_ne hj]
theorem wipe_in {j : Nat} : ∀ {τ : St} {ws : List Nat}, j ∈ ws → (wipe τ ws)[j]? = if j < τ.length then some none else none := fun {τ ws} hw => by
  induction ws with
  | nil => cases hw
  | cons w ws ih =>
    unfold wipe
    by_cases hw2 : j = w
    · subst hw2
      by_cases hl : j < τ.length
      · rw [if_pos hl, set_eq (by rw [wipe_length]; exact hl)]
      · rw [if_neg hl, List.getElem?_eq_none (by rw [List.length_set, wipe_length]; omega)]
    · rw [set_ne hw2]
      exact ih ((List.mem_cons.mp hw).resolve_left hw2)
theorem wipe_twice {σ : St} {vs : List Nat} : wipe (wipe σ vs) vs = wipe σ vs := by
  refine List.ext_getElem? fun j => ?_
  by_cases hj : j ∈ vs
  · rw [wipe_in hj, wipe_in hj, wipe_length]
  · rw [wipe_out hj]
section
variable {X : Cx} {pos : Pos}
theorem si_name {i : Nat} {x : Str} {vs : List Nat} (hN : X.N.Nodup) (hi : X.N[i]? = some x := by rfl) (hx : Loc X.env.scope x := by first | exact .inl rfl | exact .inr rfl) (hf : X.fn x = true ∨ X.env.scope.names.lookup x = some .local := by first | exact .inl rfl | exact .inr rfl | assumption) (hm : i ∈ vs := by decide) : StoresIn X (.Name x pos) vs (agName i) := by
  refine ⟨_, pg_name hN hi hx hf, fun P G F ρ σ H d v Q Q' R rv ⟨ok, h⟩ hq => hq _ _ (R.setD ok rv) (wipe_set hm) h⟩
/-- several -/
def StoresIns (X : Cx) (ts : List Expr) (n : Nat) (vs : List Nat) (u : AGs) : Prop := (∃ T : TGs, PGs X ts T ∧ ∀ P G F ρ σ H ds ws (Q : List Sv → Prop) (Q' : St → Hp → Prop), Rel X.K P G F ρ σ H → RpL X.K G ds ws → u ds ρ Q → (∀ ρ' σ', Rel X.K P G F ρ' σ' H → wipe σ' vs = wipe σ vs → Q ρ' → Q' σ' H) → T ws σ H Q') ∧ ∀ ds ρ Q, u ds ρ Q → ds.length = n
theorem sis_nil {vs : List Nat} : StoresIns X [] 0 vs agNil := ⟨⟨_, pgs_nil, fun P G F ρ σ H ds ws Q Q' R rs ⟨e, h⟩ hq => by
  subst e
  exact ⟨rpl_nil.mp rs, hq _ _ R rfl h⟩⟩, fun ds ρ Q h => by rw [h.1]; rfl⟩
theorem sis_cons {e : Expr} {es : List Expr} {n : Nat} {vs : List Nat} {t : AG} {u : AGs} (h1 : StoresIn X e vs t) (h2 : StoresIns X es n vs u) (hs : (assignEach (e :: es) X.env).map (·.2) = assign e X.env :: (assignEach es X.env).map (·.2) := by rfl)
    (hm : ∀ d ρ Q, t d ρ Q → ∃ ρ1, Q ρ1) : StoresIns X (e :: es) (n + 1) vs (agCons t u) := by
  obtain ⟨T, p, r⟩ := h1
  obtain ⟨⟨U, p', r'⟩, hl⟩ := h2
  refine ⟨⟨_, pgs_cons p p' hs, fun P G F ρ σ H ds ws Q Q' R rs h hq => ?_⟩, fun ds ρ Q h => ?_⟩
  · cases ds with
    | nil => exact h.elim
    | cons d ds =>
      obtain ⟨v, w, rfl, rv, rw'⟩ := rpl_cons.mp rs
      exact ⟨v, w, rfl, r P G F ρ σ H d v _ _ R rv h fun ρ1 σ1 R1 w1 q1 => r' P G F ρ1 σ1 H ds w _ Q' R1 rw' q1 fun ρ2 σ2 R2 w2 q2 => hq ρ2 σ2 R2 (w2.trans w1) q2⟩
  · cases ds with
    | nil => exact h.elim
    | cons d ds =>
      obtain ⟨ρ1, q⟩ := hm _ _ _ h
      rw [List.length_cons, hl _ _ _ q]
theorem si_tup {es : List Expr} {k n : Nat} {vs : List Nat} {u : AGs} (hc : X.calm = true) (h : StoresIns X es n vs u) (hn : (assignEach es X.env).length = n := by rfl) (hst : (assignEach es X.env).findIdx? (·.1) = none := by rfl) : StoresIn X (.Tuple es k pos) vs (agTup u) := by
  obtain ⟨⟨T, p, r⟩, hl⟩ := h
  refine ⟨_, PG.or (pg_tup hc p hn hst) (pg_lst hc p hn hst), fun P G F ρ σ H d v Q Q' R rv h' hq => ?_⟩
  cases d <;> first | exact h'.elim | skip
  · obtain ⟨a, ws, rfl, h2, h3⟩ := rp_lst.mp rv
    exact .inr ⟨a, ws, rfl, R.sg.seq h2, by rw [← h3.length]; exact hl _ _ _ h', r P G F ρ σ H _ ws Q Q' R h3 h' hq⟩
  · obtain ⟨a, ws, rfl, h2, h3⟩ := rp_tup.mp rv
    exact .inl ⟨a, ws, rfl, Same.seqT R.sg h2, by rw [← h3.length]; exact hl _ _ _ h', r P G F ρ σ H _ ws Q Q' R h3 h' hq⟩
end
/-- the blocks of a comprehension in X -/
def fam (X : Cx) (scope : Scope) : Cx → Prop := fun Y => ∃ (s : Shared) (H : Hp) (C : Addr) (cl : List (Str × Addr)) (fp : List Addr), Y = X.blk s H scope (compEnvC scope cl C X.env) fp
section
variable {X : Cx} {W : WX} {pos : Pos} {elt tg iter : Expr} {ifs : List Expr} {scope : Scope} {ti : AI} {g : AG} {tt : AT} {te : AE} {vs : List Nat}
theorem lc_ref {T : TI} (hT : ∀ P G F ρ σ H (Q : List D → List Sv → Prop) (Z : KX) (R' : It → Hp → Prop), Rel X.K P G F ρ σ H → ti ρ Q Z → XIn X W P G F σ Z →
      (∀ G' ρ' H' J ds, Rel X.K P G' F ρ' σ H' → Same G G' → Walk X.K G' J ds → Q ds ρ' → R' J H') → T σ H R')
    (hg : ∀ Y, fam X scope Y → StoresIn Y tg vs g) (ht : ∀ Y, fam X scope Y → TXs Y noW ifs tt) (he : ∀ Y, fam X scope Y → EX Y noW elt te)
    {P : List (Nat × Addr)} {G F : Hp} {ρ : List Sv} {σ : St} {H : Hp} {Q : List D → List Sv → Prop} {Z : KX} {Q' : VK} (R : Rel X.K P G F ρ σ H) (h : oLc ti g tt te vs ρ Q Z) (hz : XIn X W P G F σ Z)
    (hq : ∀ G' ρ' H' a us xs, Rel X.K P G' F ρ' σ H' → Same G G' → H' a = some (.lst us) → G' a = none → F a = none → NoS ρ' σ a → RpL X.K G' xs us → Q xs ρ' → Q' (.ref a) H') :
    tLc T (wpG (fam X scope) tg) (wpTs (fam X scope) ifs) (wpE (fam X scope) elt) vs σ H Q' := by
  refine hT P G F ρ σ H _ Z _ R h hz fun G1 ρ1 H1 J ds R1 s1 wk ⟨hn, q⟩ => fun D hD => ?_
  have hFD : F D = none := R1.sf.free hD
  refine ⟨fun i m H' => ∃ G' ρ' us acc, Rel X.K P G' (upd F D (.lst us)) ρ' σ H' ∧ Same G1 G' ∧ m = ds.length - i ∧ i ≤ ds.length ∧ (∀ i ∈ vs, noOwn ρ' i) ∧ RpL X.K G' acc us ∧ aComp g tt te vs Q (ds.drop i) acc ρ', ⟨_, G1, ρ1, [], [], R1.frame hD, Same.refl _, rfl, Nat.zero_le _, hn, RpL.nil, q⟩, ?_⟩
  rintro i m H' ⟨G', ρ', us, acc, R', s', rfl, hi, hn', hr, q'⟩
  by_cases hlt : i < ds.length
  · refine .inr ⟨wk.go i H' (s'.trans R'.sg) hlt, fun H2 => ∃ G' ρ' us acc, Rel X.K P G' (upd F D (.lst us)) ρ' σ H2 ∧ Same G1 G' ∧ (∀ i ∈ vs, noOwn ρ' i) ∧ RpL X.K G' acc us ∧ aComp g tt te vs Q (ds.drop (i + 1)) acc ρ', fun H2 ⟨G2, ρ2, us2, acc2, R2, s2, n2, r2, q2⟩ => ⟨_, by omega, G2, ρ2, us2, acc2, R2, s2, rfl, hlt, n2, r2, q2⟩, fun x H2 y => ?_⟩
    rw [List.drop_eq_getElem_cons hlt] at q'
    obtain ⟨G2, gr, rv⟩ := wk.yld i G' H' H2 x ds[i] s' R'.sg (List.getElem?_eq_getElem hlt) y
    have R2 := R'.grow gr
    have nrest : ∀ ρ3 : List Sv, ∀ i ∈ vs, noOwn (restA ρ' ρ3 vs) i := fun ρ3 i hi => by
      unfold noOwn
      cases e : (restA ρ' ρ3 vs)[i]? with
      | none => trivial
      | some s =>
        have z := restA_in hi e
        rw [List.getD_eq_getElem?_getD] at z
        have k := hn' i hi
        unfold noOwn at k
        cases q : ρ'[i]? with
        | none => rw [q] at z; rw [z]; trivial
        | some t => rw [q] at z k; rw [z]; exact k
    intro Y hY pins s u I ru
    obtain ⟨T1, p1, r1⟩ := hg Y hY
    obtain ⟨_, _, _, _, _, eY⟩ := id hY
    have eK : Y.K = X.K := by rw [eY]
    refine p1.run pins s _ _ _ u _ I ru ?_
    refine r1 P G2 (upd F D (.lst us)) (wipeA ρ' vs) _ H2 _ x _ _ (by rw [eK]; exact R2.wipe hn') (by rw [eK]; exact rv) q' fun ρ3 σ3 R3 w3 q3 => ?_
    rw [eK] at R3
    refine ⟨by rw [w3]; exact wipe_twice, fun Y2 hY2 pins2 s2 I2 => ?_⟩
    obtain ⟨T2, p2, r2⟩ := (ht Y2 hY2).ex
    obtain ⟨_, _, _, _, _, eY2⟩ := id hY2
    have eK2 : Y2.K = X.K := by rw [eY2]
    refine p2.run pins2 s2 _ _ _ I2 ?_
    refine r2 P G2 (upd F D (.lst us)) ρ3 σ3 H2 _ noX _ (by rw [eK2]; exact R3) q3 xin_no fun G4 ρ4 H4 b R4 s4 q4 => ?_
    rw [eK2] at R4
    have s5 : Same G1 G4 := (s'.trans gr.j).trans s4
    have w4 : wipe σ3 vs = wipe σ vs := by rw [w3]; exact wipe_twice
    cases b with
    | false =>
      rw [if_neg Bool.false_ne_true] at q4
      exact iteF ⟨G4, _, us, acc, R2.rest R4 s4 w4 hn', s5, nrest ρ4, hr.mono (gr.j.trans s4), q4⟩
    | true =>
      rw [if_pos rfl] at q4
      refine iteT fun Y3 hY3 pins3 s3 I3 => ?_
      obtain ⟨T3, p3, r3⟩ := (he Y3 hY3).ex
      obtain ⟨_, _, _, _, _, eY3⟩ := id hY3
      have eK3 : Y3.K = X.K := by rw [eY3]
      refine p3.run pins3 s3 _ _ _ I3 ?_
      refine r3 P G4 (upd F D (.lst us)) ρ4 σ3 H4 _ noX _ (by rw [eK3]; exact R4) q4 xin_no fun G5 ρ5 H5 y d R5 s6 ry ⟨hz5, q5⟩ => ?_
      rw [eK3] at R5 ry
      have hr5 := hr.mono ((gr.j.trans s4).trans s6)
      refine ⟨us, R5.sf D _ upd_same, by rw [← hr5.length]; exact hz5, G5, _, us ++ [y], acc ++ [d], (R2.rest R5 (s4.trans s6) w4 hn').bump _, s5.trans s6, nrest ρ5, hr5.append (RpL.cons ry RpL.nil), q5⟩
  · have e : i = ds.length := by omega
    refine .inl ⟨wk.stop i H' (s'.trans R'.sg) (by omega), ?_⟩
    rw [e, List.drop_length] at q'
    have sF : Same F (upd F D (.lst us)) := same_new hFD
    refine hq G' ρ' H' D us acc (R'.weakF sF) (s1.trans s') (R'.sf D _ upd_same) (R'.gf D _ upd_same) hFD ⟨fun j b ys ej z => ?_, fun j t ej hb => ?_⟩ hr q'
    · obtain ⟨a, ws, k1, k2, k3, k4, k5⟩ := R'.own j b ys ej
      rw [z] at k1
      cases k1
      rw [upd_same] at k4
      cases k4
    · obtain ⟨_, _, g3⟩ := R'.tr.ex ej hb
      rw [upd_same] at g3
      cases g3
end
end VS
/-! VSi: comprehensions as rules; defs, calls, the law's end. -/
namespace VS
open PySem PySem.Spec PyProof.Rows L2
section
variable {X : Cx} {W : WX} {pos : Pos} {elt tg iter : Expr} {ifs : List Expr} {scope : Scope} {ti : AI} {g : AG} {tt : AT} {te : AE} {own : List (Str × Nat)} {vs : List Nat}
theorem o_lc (hc : X.calm = true) (hN : X.N.Nodup) (hi : IX X W tg iter ti) (ok : BlkOk X.N X.env.scope scope own)
    (hg : ∀ (s : Shared) (H : Hp) (C : Addr) (cl : List (Str × Addr)) (fp : List Addr), StoresIn (X.blk s H scope (compEnvC scope cl C X.env) fp) tg vs g)
    (ht : ∀ (s : Shared) (H : Hp) (C : Addr) (cl : List (Str × Addr)) (fp : List Addr), TXs (X.blk s H scope (compEnvC scope cl C X.env) fp) noW ifs tt)
    (he : ∀ (s : Shared) (H : Hp) (C : Addr) (cl : List (Str × Addr)) (fp : List Addr), EX (X.blk s H scope (compEnvC scope cl C X.env) fp) noW elt te)
    (hs : ∀ x, foldedSetIterable iter X.env x = pure x := by intro _; rfl) (hv : own.map (·.2) = vs := by rfl) : EO X W (.ListComp elt [⟨tg, iter, ifs, 0⟩] scope pos) (oLc ti g tt te vs) := by
  obtain ⟨T, p, r⟩ := hi.ex
  subst hv
  refine ⟨_, pe_lc hc hN p ok (fun s H C cl fp => pg_wp (C := fam X scope) ⟨s, H, C, cl, fp, rfl⟩) (fun s H C cl fp => pts_wp (C := fam X scope) ⟨s, H, C, cl, fp, rfl⟩) (fun s H C cl fp => pe_wp (C := fam X scope) ⟨s, H, C, cl, fp, rfl⟩) hs, fun P G F ρ σ H Q Z Q' R h hz hq => ?_⟩
  exact lc_ref r (fun Y ⟨s, H, C, cl, fp, e⟩ => by rw [e]; exact hg s H C cl fp) (fun Y ⟨s, H, C, cl, fp, e⟩ => by rw [e]; exact ht s H C cl fp) (fun Y ⟨s, H, C, cl, fp, e⟩ => by rw [e]; exact he s H C cl fp) R h hz hq
/-- the same, the list from now on data -/
theorem s_setLcD {i : Nat} {y : Str} {py spos : Pos} (hc : X.calm = true) (hN : X.N.Nodup) (hi : IX X W tg iter ti) (ok : BlkOk X.N X.env.scope scope own)
    (hg : ∀ (s : Shared) (H : Hp) (C : Addr) (cl : List (Str × Addr)) (fp : List Addr), StoresIn (X.blk s H scope (compEnvC scope cl C X.env) fp) tg vs g)
    (ht : ∀ (s : Shared) (H : Hp) (C : Addr) (cl : List (Str × Addr)) (fp : List Addr), TXs (X.blk s H scope (compEnvC scope cl C X.env) fp) noW ifs tt)
    (he : ∀ (s : Shared) (H : Hp) (C : Addr) (cl : List (Str × Addr)) (fp : List Addr), EX (X.blk s H scope (compEnvC scope cl C X.env) fp) noW elt te)
    (hy : X.N[i]? = some y := by rfl) (hyl : X.env.scope.names.lookup y = some .local := by rfl) (hsw : swapsWith (.ListComp elt [⟨tg, iter, ifs, 0⟩] scope pos) (some (.Name y py)) spos.line X.env = pure true := by exact sw_true rfl rfl rfl (by decide +kernel))
    (hs : ∀ x, foldedSetIterable iter X.env x = pure x := by intro _; rfl) (hv : own.map (·.2) = vs := by rfl) : SX X W (.Assign [.Name y py] (.ListComp elt [⟨tg, iter, ifs, 0⟩] scope pos) spos) (sAsg (aFrz (oLc ti g tt te vs)) (agName i)) := by
  obtain ⟨T, p, r⟩ := hi.ex
  subst hv
  refine ⟨_, ps_setLc hc hN hy hyl hsw p ok (fun s H C cl fp => pg_wp (C := fam X scope) ⟨s, H, C, cl, fp, rfl⟩) (fun s H C cl fp => pts_wp (C := fam X scope) ⟨s, H, C, cl, fp, rfl⟩) (fun s H C cl fp => pe_wp (C := fam X scope) ⟨s, H, C, cl, fp, rfl⟩) hs, fun P G F ρ σ H D D' R h hd => ?_⟩
  refine lc_ref r (fun Y ⟨s, H, C, cl, fp, e⟩ => by rw [e]; exact hg s H C cl fp) (fun Y ⟨s, H, C, cl, fp, e⟩ => by rw [e]; exact ht s H C cl fp) (fun Y ⟨s, H, C, cl, fp, e⟩ => by rw [e]; exact he s H C cl fp) R h (hd.xx σ)
    fun G1 ρ1 H1 a us xs R1 s1 h2 h3 h4 hn hr ⟨ok, q⟩ => ?_
  have sG : Same G1 (upd G1 a (.lst us)) := same_new h3
  exact hd.nx _ _ _ H1 ((R1.keep h2 h3 h4 hn).setD ok (rp_lst.mpr ⟨a, us, rfl, SqL.of upd_same, hr.mono sG⟩)) (s1.trans sG) q
end
/-! ### what a def promises -/
/-- from the parameters: what is wanted of the result and of the parameters behind, what of an exception -/
abbrev Ctr := List Sv → (Sv → List Sv → Prop) → (Exc → List Sv → Prop) → Prop
/-- behind the def: what was lent stands as ρp says -/
structure Back (K : PySem.W.Frag) (P : List (Nat × Addr)) (G F : Hp) (ρp : List Sv) (H : Hp) : Prop where
  sg : Same G H
  sf : Same F H
  gf : ∀ a o, F a = some o → G a = none
  io : ∀ p ∈ P, ∃ xs vs, ρp[p.1]? = some (.own true xs) ∧ H p.2 = some (.lst vs) ∧ G p.2 = none ∧ RpL K G xs vs
  tr : ∀ (i : Nat) (t : Tr), ρp[i]? = some (.tre t) → ∃ v, TRt K G H t v ∧ t.foot.Nodup ∧ ∀ a ∈ t.foot, G a = none ∧ F a = none
def spV (K : PySem.W.Frag) (n : Nat) (c : Ctr) : Sp := fun vs H Q E => vs.length = n ∧ ∃ (P : List (Nat × Addr)) (G F : Hp) (ρ : List Sv) (Qa : Sv → List Sv → Prop) (Za : Exc → List Sv → Prop),
  Rel K P G F ρ (vs.map some) H ∧ c ρ Qa Za ∧
  (∀ G' ρp H' r v, Back K P G' F ρp H' → Same G G' → Rr K P G' F r v H' → Qa r ρp → Q v H') ∧
  (∀ G' ρp H' x cls d, Back K P G' F ρp H' → Same G G' → ExcIs K G' H' x cls d → Za x ρp → E cls d H')
/-- a def at f keeps its contract, at surroundings with room for k calls where nothing is being shown -/
structure FnG (P : Program) (w : World) (K : PySem.W.Frag) (mg : Str → Option Value) (base : Heap) (k : Nat) (f : Addr) (fd : FuncData) (ps : List Str) (sp : Sp) : Prop where
  len : ∀ vs H Q E, sp vs H Q E → vs.length = ps.length
  run : ∀ (A : Around) (outer : List Env) (s : Shared) (H : Hp) (args : Args) (us : List Value) (vs : List V) (Q : VK) (E : XK), Room k A → A.guards = some [] → Env0 P w K mg base A outer s H → BindsTo s fd args (ps.zip us) → Vals vs us → sp vs H Q E →
    codeAny (model P w) A (.call (.ref f) args) (CR (L2N.CX P w) (outer) P w H s Q E) s
theorem FnG.mono {P : Program} {w : World} {K : PySem.W.Frag} {mg : Str → Option Value} {base : Heap} {j k : Nat} {f : Addr} {fd : FuncData} {ps : List Str} {sp : Sp} (F : FnG P w K mg base j f fd ps sp) (h : j ≤ k) : FnG P w K mg base k f fd ps sp :=
  ⟨F.len, fun A o s H ar us vs Q E r => F.run A o s H ar us vs Q E (r.mono h)⟩
section
variable {P : Program} {w : World} {K : PySem.W.Frag} {mg : Str → Option Value} {base : Heap} {x qual : Str} {params : Arguments} {body : List Stmt} {scope : Scope} {dvs : List V} {kws : List (Str × V)} {f : Addr} {fd : FuncData}
/-- a def by its body -/
theorem FnG.of {N ps : List Str} {k : Nat} {sp : Sp} (F : FunD K x qual params body scope dvs kws f fd) (S : FnScope N ps scope) (hsys : ∃ o es ep, base.get? sysModules = some o ∧ o.data = .dict es ep) (len : ∀ vs H Q E, sp vs H Q E → vs.length = ps.length)
    (hb : ∀ (cdv : Value) (A : Around) (ou : List Env) (s : Shared) (H : Hp) (vs : List V) (Q : VK) (E : XK), Run k (cxOf (L2N.CX P w) P w K mg base N qual scope f cdv A ou s H E) → sp vs H Q E →
      ∃ t, PSs (cxOf (L2N.CX P w) P w K mg base N qual scope f cdv A ou s H E) body t ∧ t { nx := fun _ H1 => Q .non H1, rt := Q } (start N vs) H) : FnG P w K mg base (k + 1) f fd ps sp := by
  obtain ⟨oc, od, dV, kV, doc, pm, an, cdv, ct, osl, e, lk, hcd, _, _⟩ := F.ex
  subst e
  refine ⟨len, fun A ou s H ar us vs Q E hr hgd e0 hbi r hsp => ?_⟩
  have hl := len _ _ _ _ hsp
  have inK : K.In s.heap := e0.mod.kin.keeps fun b o z => (e0.bs b o z).1
  have noL : s.heap.NoLimit := e0.mod.nolimit.keeps fun b o z => (e0.bs b o z).1
  have kinds : ∀ y ∈ ps.zip us, scope.names.lookup y.1 = some .local ∨ (scope.names.lookup y.1 = some .cell ∧ ((cellsFrom (s.heap.objs.size + 1) scope.names []).lookup y.1).isSome = true) := by
    rintro ⟨n, v⟩ hy
    rcases S.par n (List.of_mem_zip hy).1 with q | q
    · exact Or.inl q
    · exact Or.inr ⟨q, W.cellsFrom_some _ _ _ (Or.inl q)⟩
  refine codeAny_call_function hr.depth (inK _ _ lk) rfl S.co S.gen rfl (W.codeRec_of inK hcd) (hbi _ _ _ _ ?_)
  refine wpAny_newFunctionEnv_cells S.kind kinds fun env he s1 inC => ?_
  subst he
  refine ⟨noL.keeps inC.toInCall.keep, codeAny_func ?_⟩
  have rn : Run k (cxOf (L2N.CX P w) P w K mg base N qual scope f cdv A ou s H E) := ⟨hr.deeper _, hgd, hsys⟩
  obtain ⟨t, ht, hq⟩ := hb cdv A ou s H vs Q E rn hsp
  have J0 := inv_start (CX := L2N.CX P w) (mg := mg) (E := E) S hr.hd e0 hl r inC
  refine wpAny_mono (ht.run [] s1 (start N vs) H _ J0 hq) (fun fl s' hs => ?_) fun _ _ z => z
  cases fl with
  | ret u =>
    obtain ⟨v, σ', H', J, rv, q⟩ := hs
    exact ⟨v, H', J.os, J.bare, J.base, J.hok, rv, q⟩
  | next =>
    obtain ⟨σ', H', J, q⟩ := hs
    exact ⟨V.non, H', J.os, J.bare, J.base, J.hok, rfl, q⟩
  | brk => obtain ⟨_, _, _, q⟩ := hs; exact q.elim
  | cont => obtain ⟨_, _, _, q⟩ := hs; exact q.elim
end
/-- the slots of a body at its entry -/
def startA (n : Nat) (ρ : List Sv) : List Sv := ρ ++ List.replicate (n - ρ.length) .un
theorem Rel.startS {K : PySem.W.Frag} {P : List (Nat × Addr)} {G F : Hp} {ρ : List Sv} {vs : List V} {H : Hp} {N : List Str} (R : Rel K P G F ρ (vs.map some) H) : Rel K P G F (startA N.length ρ) (L2.start N vs) H := by
  have hl : ρ.length = vs.length := by have := R.len; rwa [List.length_map] at this
  have g1 : ∀ {i : Nat} {s : Sv}, s ≠ .un → (startA N.length ρ)[i]? = some s → ρ[i]? = some s := fun {i s} hs e => by
    unfold startA at e
    by_cases hi : i < ρ.length
    · rwa [List.getElem?_append_left hi] at e
    · rw [List.getElem?_append_right (by omega), List.getElem?_replicate] at e
      split at e
      · exact absurd (Option.some.inj e).symm hs
      · cases e
  have g2 : ∀ {i : Nat} {v : V}, (vs.map some)[i]? = some (some v) → (L2.start N vs)[i]? = some (some v) := fun {i v} e => by
    unfold L2.start
    rw [List.getElem?_append_left (by
      by_cases h : i < (vs.map some).length
      · exact h
      · rw [List.getElem?_eq_none (by omega)] at e; cases e)]
    exact e
  have g3 : ∀ {i : Nat} {s : Sv} {v : V}, ρ[i]? = some s → (L2.start N vs)[i]? = some (some v) → (vs.map some)[i]? = some (some v) := fun {i s v} e q => by
    have hi : i < (vs.map some).length := by
      rw [List.length_map, ← hl]
      exact (List.getElem?_eq_some_iff.mp e).1
    unfold L2.start at q
    rwa [List.getElem?_append_left hi] at q
  refine ⟨by unfold startA L2.start; rw [List.length_append, List.length_append, List.length_replicate, List.length_replicate, List.length_map, hl], R.sg, R.sf, R.gf, fun i d e => ?_, fun i b xs e => ?_, fun i j a b xs c ys e1 e2 e3 e4 => ?_, fun p hp => ?_, fun i xs e => ?_, R.tr.step (fun i t e => ?_) (Same.refl _) (fun i t a e ha => ?_) fun j c ys a i t e1 e2 e3 => ?_⟩
  · obtain ⟨v, k1, k2⟩ := R.dat i d (g1 (by simp) e)
    exact ⟨v, g2 k1, k2⟩
  · obtain ⟨a, us, k1, k2⟩ := R.own i b xs (g1 (by simp) e)
    exact ⟨a, us, g2 k1, k2⟩
  · have e1 := g1 (by simp) e1
    have e2 := g1 (by simp) e2
    exact R.ne i j a b xs c ys e1 e2 (g3 e1 e3) (g3 e2 e4)
  · obtain ⟨k1, xs, k2⟩ := R.pin p hp
    refine ⟨g2 k1, xs, ?_⟩
    unfold startA
    rw [List.getElem?_append_left (List.getElem?_eq_some_iff.mp k2).1]
    exact k2
  · exact R.pinc i xs (g1 (by simp) e)
  · have e' := g1 (by simp) e
    obtain ⟨v, h1, _⟩ := R.tr.got i t e'
    exact ⟨e', by rw [g2 h1, h1]⟩
  · obtain ⟨_, k2, k3⟩ := R.tr.ex (g1 (by simp) e) ha
    exact ⟨rfl, k2, k3⟩
  · have e1 := g1 (by simp) e1
    exact R.tr.own i t j c ys a (g1 (by simp) e3) e1 (g3 e1 e2)
theorem Back.of {K : PySem.W.Frag} {P : List (Nat × Addr)} {G F : Hp} {ρ : List Sv} {σ : St} {H : Hp} {n : Nat} (R : Rel K P G F ρ σ H) (hn : ∀ p ∈ P, p.1 < n) : Back K P G F (ρ.take n) H := by
  refine ⟨R.sg, R.sf, R.gf, fun p hp => ?_, fun i t e => ?_⟩
  rotate_left
  · have hi : i < n := by
      have := (List.getElem?_eq_some_iff.mp e).1
      rw [List.length_take] at this
      omega
    rw [List.getElem?_take_of_lt hi] at e
    obtain ⟨v, -, h2, h3, h4⟩ := R.tr.got i t e
    exact ⟨v, h2, h3, h4⟩
  obtain ⟨k1, xs, k2⟩ := R.pin p hp
  obtain ⟨a, vs, g1, g2, g3, g4, g5⟩ := R.own _ _ _ k2
  rw [k1] at g1
  cases g1
  exact ⟨xs, vs, by rw [List.getElem?_take_of_lt (hn p hp)]; exact k2, g2, g3, g5⟩
section
variable {P : Program} {w : World} {K : PySem.W.Frag} {mg : Str → Option Value} {base : Heap} {x qual : Str} {params : Arguments} {body : List Stmt} {scope : Scope} {dvs : List V} {kws : List (Str × V)} {f : Addr} {fd : FuncData}
/-- THE RULE for a def: its body as a term of these rules, and what the term says -/
theorem ok_fn {N ps : List Str} {k : Nat} {c : Ctr} {t : AS} (F : FunD K x qual params body scope dvs kws f fd) (S : FnScope N ps scope) (hsys : ∃ o es ep, base.get? sysModules = some o ∧ o.data = .dict es ep)
    (hb : ∀ (cdv : Value) (A : Around) (ou : List Env) (s : Shared) (H : Hp) (E : XK), Run k (cxOf (L2N.CX P w) P w K mg base N qual scope f cdv A ou s H E) → PassesOwn (model P w) (cxOf (L2N.CX P w) P w K mg base N qual scope f cdv A ou s H E).A (cxOf (L2N.CX P w) P w K mg base N qual scope f cdv A ou s H E).env (cxOf (L2N.CX P w) P w K mg base N qual scope f cdv A ou s H E).xe →
      L2N.Takes (cxOf (L2N.CX P w) P w K mg base N qual scope f cdv A ou s H E) (fun cls d _ H => E cls d H) → SXs (cxOf (L2N.CX P w) P w K mg base N qual scope f cdv A ou s H E) (fun cls d _ H => E cls d H) body t)
    (hc : ∀ ρ Q Z, ρ.length = ps.length → c ρ Q Z → t { nx := fun ρ' => Q (.dat .non) (ρ'.take ps.length), rt := fun r ρ' => Q r (ρ'.take ps.length), xx := fun x ρ' => Z x (ρ'.take ps.length) } (startA N.length ρ)) :
    FnG P w K mg base (k + 1) f fd ps (spV K ps.length c) := by
  refine FnG.of F S hsys (fun vs H Q E h => h.1) fun cdv A ou s H vs Q E rn h => ?_
  obtain ⟨hl, PP, G, FF, ρ, Qa, Za, R, hca, hq, hx⟩ := h
  have hρ : ρ.length = ps.length := by have := R.len; rw [List.length_map] at this; omega
  obtain ⟨T, p, r⟩ := (hb cdv A ou s H E rn (passes_of rfl) (L2N.takes_of rfl rfl rfl rfl)).ex
  have hP : ∀ p ∈ PP, p.1 < ps.length := fun p hp => by
    obtain ⟨_, xs, k2⟩ := R.pin p hp
    rw [← hρ]
    exact (List.getElem?_eq_some_iff.mp k2).1
  refine ⟨T, p, r PP G FF _ _ H _ _ R.startS (hc ρ Qa Za hρ hca) ⟨fun G1 ρ1 σ1 H1 R1 s1 q => ?_, fun G1 ρ1 σ1 H1 r v R1 s1 rr q => ?_, fun _ _ _ _ _ _ q => q.elim, fun _ _ _ _ _ _ q => q.elim, fun σ1 G1 ρ1 H1 x cls d R1 s1 e q => ?_⟩⟩
  · exact hq G1 _ H1 (.dat .non) .non (Back.of R1 hP) s1 (show Rp K G1 .non .non from rp_non.mpr rfl) q
  · exact hq G1 _ H1 r v (Back.of R1 hP) s1 rr q
  · exact hx G1 _ H1 x cls d (Back.of R1 hP) s1 e q
end
end VS
/-! VSj: calls of the program's defs. -/
namespace VS
open PySem PySem.Spec PyProof.Rows L2
/-! ### arguments: data, or a list that is lent -/
inductive Ar where
  | dat (d : D) | io (i : Nat)
def ArR (K : PySem.W.Frag) (G : Hp) (σ : St) : Ar → V → Prop
  | .dat d, v => Rp K G d v
  | .io i, v => σ[i]? = some (some v)
def ArL (K : PySem.W.Frag) (G : Hp) (σ : St) : List Ar → List V → Prop
  | [], vs => vs = []
  | a :: as, vs => ∃ v r, vs = v :: r ∧ ArR K G σ a v ∧ ArL K G σ as r
section
variable {K : PySem.W.Frag} {G G' : Hp} {σ : St}
theorem ArR.mono (e : Same G G') : ∀ {a : Ar} {v : V}, ArR K G σ a v → ArR K G' σ a v
  | .dat _, _, h => Rp.mono e h
  | .io _, _, h => h
theorem ArL.mono (e : Same G G') : ∀ {as : List Ar} {vs : List V}, ArL K G σ as vs → ArL K G' σ as vs
  | [], _, h => h
  | _ :: _, _, ⟨v, r, h1, h2, h3⟩ => ⟨v, r, h1, h2.mono e, h3.mono e⟩
theorem ArL.length : ∀ {as : List Ar} {vs : List V}, ArL K G σ as vs → as.length = vs.length
  | [], _, h => by rw [show _ = [] from h]; rfl
  | _ :: _, _, ⟨v, r, h1, h2, h3⟩ => by rw [h1, List.length_cons, List.length_cons, h3.length]
theorem ArL.get : ∀ {as : List Ar} {vs : List V} {i : Nat} {a : Ar}, ArL K G σ as vs → as[i]? = some a → ∃ v, vs[i]? = some v ∧ ArR K G σ a v
  | [], _, _, _, _, e => by simp at e
  | _ :: _, _, 0, _, ⟨v, r, h1, h2, h3⟩, e => by
    have e' := Option.some.inj e
    subst e' h1
    exact ⟨v, rfl, h2⟩
  | _ :: _, _, i + 1, _, ⟨v, r, h1, h2, h3⟩, e => by
    subst h1
    exact ArL.get (i := i) h3 e
end
def iosOf : List Ar → List Nat
  | [] => []
  | .dat _ :: as => iosOf as
  | .io i :: as => i :: iosOf as
theorem mem_ios {i : Nat} : ∀ {as : List Ar}, i ∈ iosOf as ↔ ∃ j : Nat, as[j]? = some (Ar.io i)
  | [] => by simp [iosOf]
  | .dat d :: as => by
    simp only [iosOf]
    rw [mem_ios]
    constructor
    · rintro ⟨j, h⟩; exact ⟨j + 1, by simpa using h⟩
    · rintro ⟨j, h⟩
      cases j with
      | zero => simp at h
      | succ j => exact ⟨j, by simpa using h⟩
  | .io k :: as => by
    simp only [iosOf, List.mem_cons]
    rw [mem_ios]
    constructor
    · rintro (e | ⟨j, h⟩)
      · exact ⟨0, by rw [e]; rfl⟩
      · exact ⟨j + 1, by simpa using h⟩
    · rintro ⟨j, h⟩
      cases j with
      | zero => exact .inl (by simpa using (Option.some.inj h).symm)
      | succ j => exact .inr ⟨j, by simpa using h⟩
theorem ios_inj : ∀ {as : List Ar}, (iosOf as).Nodup → ∀ {j k i : Nat}, as[j]? = some (.io i) → as[k]? = some (.io i) → j = k
  | [], _, j, k, i, h, _ => by simp at h
  | .dat d :: as, hn, j, k, i, h1, h2 => by
    cases j with
    | zero => simp at h1
    | succ j =>
      cases k with
      | zero => simp at h2
      | succ k => exact congrArg Nat.succ (ios_inj (as := as) (i := i) hn (by simpa using h1) (by simpa using h2))
  | .io m :: as, hn, j, k, i, h1, h2 => by
    simp only [iosOf, List.nodup_cons] at hn
    cases j with
    | zero =>
      cases k with
      | zero => rfl
      | succ k =>
        have e : m = i := by simpa using h1
        exact absurd (mem_ios.mpr ⟨k, by rw [e]; simpa using h2⟩) hn.1
    | succ j =>
      cases k with
      | zero =>
        have e : m = i := by simpa using h2
        exact absurd (mem_ios.mpr ⟨j, by rw [e]; simpa using h1⟩) hn.1
      | succ k => exact congrArg Nat.succ (ios_inj (as := as) (i := i) hn.2 (by simpa using h1) (by simpa using h2))
/-- the callee's parameters -/
def res (ρ : List Sv) : Ar → Sv
  | .dat d => .dat d
  | .io i => match ρ[i]? with
    | some (.own _ xs) => .own true xs
    | _ => .un
theorem res_own {ρ : List Sv} {a : Ar} {b : Bool} {xs : List D} (h : res ρ a = .own b xs) : ∃ i c, a = .io i ∧ b = true ∧ ρ[i]? = some (.own c xs) := by
  cases a with
  | dat d => exact absurd (show Sv.dat d = .own b xs from h) (by simp)
  | io i =>
    have h' : (match ρ[i]? with | some (.own _ xs) => Sv.own true xs | _ => .un) = .own b xs := h
    split at h'
    · rename_i c ys ec
      cases h'
      exact ⟨i, c, rfl, rfl, ec⟩
    · cases h'
theorem res_dat {ρ : List Sv} {a : Ar} {d : D} (h : res ρ a = .dat d) : a = .dat d := by
  cases a with
  | dat e =>
    have h' : Sv.dat e = .dat d := h
    cases h'
    rfl
  | io i =>
    have h' : (match ρ[i]? with | some (.own _ xs) => Sv.own true xs | _ => .un) = .dat d := h
    split at h' <;> cases h'
theorem res_tre {ρ : List Sv} {a : Ar} {t : Tr} (h : res ρ a = .tre t) : False := by
  cases a with
  | dat e => exact absurd (show Sv.dat e = .tre t from h) (by simp)
  | io i =>
    have h' : (match ρ[i]? with | some (.own _ xs) => Sv.own true xs | _ => .un) = .tre t := h
    split at h' <;> cases h'
theorem res_io {ρ : List Sv} {i : Nat} {b : Bool} {xs : List D} (h : ρ[i]? = some (.own b xs)) : res ρ (.io i) = .own true xs := by
  show (match ρ[i]? with | some (.own _ xs) => Sv.own true xs | _ => .un) = .own true xs
  rw [h]
def setOwn (ρ : List Sv) (i : Nat) (xs : List D) : List Sv := match ρ[i]? with
  | some (.own b _) => ρ.set i (.own b xs)
  | _ => ρ
/-- the lent lists as they stand behind the call -/
def put (ρ : List Sv) : List Ar → List Sv → List Sv
  | .io i :: as, .own true xs :: ps => put (setOwn ρ i xs) as ps
  | _ :: as, _ :: ps => put ρ as ps
  | _, _ => ρ
theorem setOwn_len {ρ : List Sv} {i : Nat} {xs : List D} : (setOwn ρ i xs).length = ρ.length := by
  unfold setOwn
  split
  · rw [List.length_set]
  · rfl
theorem setOwn_get {ρ : List Sv} {i j : Nat} {xs : List D} {s : Sv} (h : (setOwn ρ i xs)[j]? = some s) : (j ≠ i ∧ ρ[j]? = some s) ∨ (j = i ∧ ((∃ b zs, ρ[j]? = some (.own b zs) ∧ s = .own b xs) ∨ (ρ[j]? = some s ∧ ∀ b zs, s ≠ .own b zs))) := by
  unfold setOwn at h
  split at h
  · rename_i b zs e
    rcases get_set h with ⟨rfl, z⟩ | ⟨hj, q⟩
    · exact .inr ⟨rfl, .inl ⟨b, zs, e, z⟩⟩
    · exact .inl ⟨hj, q⟩
  · rename_i hno
    by_cases e : j = i
    · subst e
      exact .inr ⟨rfl, .inr ⟨h, fun b zs z => hno b zs (by rw [h, z])⟩⟩
    · exact .inl ⟨e, h⟩
theorem setOwn_own {ρ : List Sv} {i j : Nat} {xs zs : List D} {b : Bool} (h : ρ[j]? = some (.own b zs)) : ∃ ys, (setOwn ρ i xs)[j]? = some (.own b ys) := by
  unfold setOwn
  split
  · rename_i b' ws e
    by_cases hj : j = i
    · subst hj
      rw [h] at e
      cases e
      exact ⟨xs, set_eq (List.getElem?_eq_some_iff.mp h).1⟩
    · exact ⟨zs, by rw [set_ne hj]; exact h⟩
  · exact ⟨zs, h⟩
theorem put_len : ∀ {as : List Ar} {ρ ps : List Sv}, (put ρ as ps).length = ρ.length
  | [], ρ, ps => by cases ps <;> rfl
  | a :: as, ρ, [] => by cases a <;> rfl
  | .dat d :: as, ρ, p :: ps => put_len (as := as)
  | .io i :: as, ρ, .un :: ps => put_len (as := as)
  | .io i :: as, ρ, .pr _ _ :: ps => put_len (as := as)
  | .io i :: as, ρ, .tre _ :: ps => put_len (as := as)
  | .io i :: as, ρ, .dat _ :: ps => put_len (as := as)
  | .io i :: as, ρ, .own false _ :: ps => put_len (as := as)
  | .io i :: as, ρ, .own true xs :: ps => (put_len (as := as)).trans setOwn_len
theorem put_own : ∀ {as : List Ar} {ρ ps : List Sv} {j : Nat} {zs : List D} {b : Bool}, ρ[j]? = some (.own b zs) → ∃ ys, (put ρ as ps)[j]? = some (.own b ys)
  | [], ρ, ps, j, zs, b, h => by cases ps <;> exact ⟨zs, h⟩
  | a :: as, ρ, [], j, zs, b, h => by cases a <;> exact ⟨zs, h⟩
  | .dat d :: as, ρ, p :: ps, j, zs, b, h => put_own (as := as) h
  | .io i :: as, ρ, .un :: ps, j, zs, b, h => put_own (as := as) h
  | .io i :: as, ρ, .pr _ _ :: ps, j, zs, b, h => put_own (as := as) h
  | .io i :: as, ρ, .tre _ :: ps, j, zs, b, h => put_own (as := as) h
  | .io i :: as, ρ, .dat _ :: ps, j, zs, b, h => put_own (as := as) h
  | .io i :: as, ρ, .own false _ :: ps, j, zs, b, h => put_own (as := as) h
  | .io i :: as, ρ, .own true xs :: ps, j, zs, b, h => by
    obtain ⟨ys, h'⟩ := setOwn_own (i := i) (xs := xs) h
    exact put_own (as := as) h'
/-- a slot behind: it was no list, or a list that was not lent, or one that was lent -/
theorem put_get : ∀ {as : List Ar} {ρ ps : List Sv} {j : Nat} {s : Sv}, (iosOf as).Nodup → (put ρ as ps)[j]? = some s → (∃ (k : Nat) (xs : List D) (b : Bool) (zs : List D), as[k]? = some (Ar.io j) ∧ ps[k]? = some (.own true xs) ∧ ρ[j]? = some (.own b zs) ∧ s = .own b xs) ∨ (ρ[j]? = some s ∧ ∀ (k : Nat) (xs : List D), as[k]? = some (Ar.io j) → ps[k]? = some (.own true xs) → ∀ b zs, s ≠ .own b zs)
  | [], ρ, ps, j, s, _, h => .inr ⟨by cases ps <;> exact h, fun k xs e => by simp at e⟩
  | a :: as, ρ, [], j, s, _, h => .inr ⟨by cases a <;> exact h, fun k xs _ e => by simp at e⟩
  | .dat d :: as, ρ, p :: ps, j, s, hn, h => by
    rcases put_get (as := as) hn h with ⟨k, xs, b, zs, h1, h2, h3, h4⟩ | ⟨h1, h2⟩
    · exact .inl ⟨k + 1, xs, b, zs, by simpa using h1, by simpa using h2, h3, h4⟩
    · refine .inr ⟨h1, fun k xs e1 e2 => ?_⟩
      cases k with
      | zero => simp at e1
      | succ k => exact h2 k xs (by simpa using e1) (by simpa using e2)
  | .io i :: as, ρ, .un :: ps, j, s, hn, h => put_skip (fun _ z => by cases z) hn (put_get (as := as) (List.nodup_cons.mp hn).2 h)
  | .io i :: as, ρ, .pr _ _ :: ps, j, s, hn, h => put_skip (fun _ z => by cases z) hn (put_get (as := as) (List.nodup_cons.mp hn).2 h)
  | .io i :: as, ρ, .tre _ :: ps, j, s, hn, h => put_skip (fun _ z => by cases z) hn (put_get (as := as) (List.nodup_cons.mp hn).2 h)
  | .io i :: as, ρ, .dat _ :: ps, j, s, hn, h => put_skip (fun _ z => by cases z) hn (put_get (as := as) (List.nodup_cons.mp hn).2 h)
  | .io i :: as, ρ, .own false _ :: ps, j, s, hn, h => put_skip (fun _ z => by cases z) hn (put_get (as := as) (List.nodup_cons.mp hn).2 h)
  | .io i :: as, ρ, .own true xs :: ps, j, s, hn, h => by
    have hi : i ∉ iosOf as := (List.nodup_cons.mp hn).1
    rcases put_get (as := as) (List.nodup_cons.mp hn).2 (show (put (setOwn ρ i xs) as ps)[j]? = some s from h) with ⟨k, ys, b, zs, h1, h2, h3, h4⟩ | ⟨h1, h2⟩
    · have hji : j ≠ i := fun z => hi (mem_ios.mpr ⟨k, by rw [← z]; exact h1⟩)
      rcases setOwn_get h3 with ⟨_, q⟩ | ⟨q, _⟩
      · exact .inl ⟨k + 1, ys, b, zs, by simpa using h1, by simpa using h2, q, h4⟩
      · exact absurd q hji
    · rcases setOwn_get h1 with ⟨hji, q⟩ | ⟨rfl, ⟨b, zs, q, e⟩ | ⟨q, hno⟩⟩
      · refine .inr ⟨q, fun k ys e1 e2 => ?_⟩
        cases k with
        | zero => exact absurd (by simpa using e1 : i = j).symm hji
        | succ k => exact h2 k ys (by simpa using e1) (by simpa using e2)
      · exact .inl ⟨0, xs, b, zs, rfl, rfl, q, e⟩
      · exact .inr ⟨q, fun k ys _ _ => hno⟩
where
  put_skip {as : List Ar} {ρ ps : List Sv} {i j : Nat} {p s : Sv} (hp : ∀ xs, p ≠ .own true xs) (hn : (iosOf (.io i :: as)).Nodup)
      (h : (∃ (k : Nat) (xs : List D) (b : Bool) (zs : List D), as[k]? = some (Ar.io j) ∧ ps[k]? = some (.own true xs) ∧ ρ[j]? = some (.own b zs) ∧ s = .own b xs) ∨ (ρ[j]? = some s ∧ ∀ (k : Nat) (xs : List D), as[k]? = some (Ar.io j) → ps[k]? = some (.own true xs) → ∀ b zs, s ≠ .own b zs)) :
      (∃ (k : Nat) (xs : List D) (b : Bool) (zs : List D), (Ar.io i :: as)[k]? = some (Ar.io j) ∧ (p :: ps)[k]? = some (.own true xs) ∧ ρ[j]? = some (.own b zs) ∧ s = .own b xs) ∨ (ρ[j]? = some s ∧ ∀ (k : Nat) (xs : List D), (Ar.io i :: as)[k]? = some (Ar.io j) → (p :: ps)[k]? = some (.own true xs) → ∀ b zs, s ≠ .own b zs) := by
    rcases h with ⟨k, xs, b, zs, h1, h2, h3, h4⟩ | ⟨h1, h2⟩
    · exact .inl ⟨k + 1, xs, b, zs, by simpa using h1, by simpa using h2, h3, h4⟩
    · refine .inr ⟨h1, fun k xs e1 e2 => ?_⟩
      cases k with
      | zero => exact absurd (by simpa using e2) (hp xs)
      | succ k => exact h2 k xs (by simpa using e1) (by simpa using e2)
/-- where the lent lists stand -/
def pinL (σ : St) : Nat → List Ar → List (Nat × Addr)
  | _, [] => []
  | k, .dat _ :: as => pinL σ (k + 1) as
  | k, .io i :: as => match σ[i]? with
    | some (some (.ref a)) => (k, a) :: pinL σ (k + 1) as
    | _ => pinL σ (k + 1) as
theorem mem_pinL {σ : St} {p : Nat × Addr} : ∀ {as : List Ar} {k : Nat}, p ∈ pinL σ k as ↔ ∃ (j i : Nat), as[j]? = some (Ar.io i) ∧ σ[i]? = some (some (.ref p.2)) ∧ p.1 = k + j
  | [], k => by simp [pinL]
  | .dat d :: as, k => by
    simp only [pinL]
    rw [mem_pinL]
    constructor
    · rintro ⟨j, i, h1, h2, h3⟩; exact ⟨j + 1, i, by simpa using h1, h2, by omega⟩
    · rintro ⟨j, i, h1, h2, h3⟩
      cases j with
      | zero => simp at h1
      | succ j => exact ⟨j, i, by simpa using h1, h2, by omega⟩
  | .io m :: as, k => by
    have base : ∀ {a : Addr}, σ[m]? = some (some (.ref a)) → (p ∈ (k, a) :: pinL σ (k + 1) as ↔ ∃ (j i : Nat), (Ar.io m :: as)[j]? = some (Ar.io i) ∧ σ[i]? = some (some (.ref p.2)) ∧ p.1 = k + j) := fun {a} ea => by
      rw [List.mem_cons, mem_pinL]
      constructor
      · rintro (e | ⟨j, i, h1, h2, h3⟩)
        · subst e; exact ⟨0, m, rfl, ea, rfl⟩
        · exact ⟨j + 1, i, by simpa using h1, h2, by omega⟩
      · rintro ⟨j, i, h1, h2, h3⟩
        cases j with
        | zero =>
          have e : m = i := by simpa using h1
          subst e
          rw [ea] at h2
          obtain ⟨p1, p2⟩ := p
          simp only [Option.some.injEq, V.ref.injEq] at h2 h3
          exact .inl (by rw [h3, ← h2]; rfl)
        | succ j => exact .inr ⟨j, i, by simpa using h1, h2, by omega⟩
    simp only [pinL]
    split
    · rename_i a ea; exact base ea
    · rename_i hno
      rw [mem_pinL]
      constructor
      · rintro ⟨j, i, h1, h2, h3⟩; exact ⟨j + 1, i, by simpa using h1, h2, by omega⟩
      · rintro ⟨j, i, h1, h2, h3⟩
        cases j with
        | zero =>
          have e : m = i := by simpa using h1
          subst e
          exact absurd h2 (hno _)
        | succ j => exact ⟨j, i, by simpa using h1, h2, by omega⟩
open Classical in
/-- the caller's own lists that are not lent, and what stood apart before -/
noncomputable def frameOf (ρ : List Sv) (σ : St) (H F : Hp) (as : List Ar) : Hp := fun a =>
  if (∃ (j : Nat) (b : Bool) (xs : List D), ρ[j]? = some (.own b xs) ∧ σ[j]? = some (some (.ref a)) ∧ j ∉ iosOf as) ∨ ∃ (j : Nat) (t : Tr), ρ[j]? = some (.tre t) ∧ a ∈ t.foot then H a else F a
theorem frameOf_tre {ρ : List Sv} {σ : St} {H F : Hp} {as : List Ar} {a : Addr} {j : Nat} {t : Tr} (h1 : ρ[j]? = some (.tre t)) (h2 : a ∈ t.foot) : frameOf ρ σ H F as a = H a := by
  unfold frameOf
  rw [if_pos (.inr ⟨j, t, h1, h2⟩)]
theorem frameOf_yes {ρ : List Sv} {σ : St} {H F : Hp} {as : List Ar} {a : Addr} {j : Nat} {b : Bool} {xs : List D} (h1 : ρ[j]? = some (.own b xs)) (h2 : σ[j]? = some (some (.ref a))) (h3 : j ∉ iosOf as) : frameOf ρ σ H F as a = H a := by
  unfold frameOf
  rw [if_pos (.inl ⟨j, b, xs, h1, h2, h3⟩)]
theorem frameOf_no {ρ : List Sv} {σ : St} {H F : Hp} {as : List Ar} {a : Addr} (h : ¬ ((∃ (j : Nat) (b : Bool) (xs : List D), ρ[j]? = some (.own b xs) ∧ σ[j]? = some (some (.ref a)) ∧ j ∉ iosOf as) ∨ ∃ (j : Nat) (t : Tr), ρ[j]? = some (.tre t) ∧ a ∈ t.foot)) : frameOf ρ σ H F as a = F a := by
  unfold frameOf
  rw [if_neg h]
section
variable {K : PySem.W.Frag} {P : List (Nat × Addr)} {G F G' : Hp} {ρ : List Sv} {σ : St} {H H' : Hp} {as : List Ar}
theorem Rel.frameF (R : Rel K P G F ρ σ H) {a : Addr} {o : HO} (e : F a = some o) : frameOf ρ σ H F as a = some o := by
  rw [frameOf_no]
  · exact e
  · rintro (⟨j, b, xs, h1, h2, _⟩ | ⟨j, t, h1, h2⟩)
    · obtain ⟨c, vs, k1, _, _, k4, _⟩ := R.own j b xs h1
      rw [h2] at k1
      cases k1
      rw [e] at k4
      cases k4
    · obtain ⟨_, _, k4⟩ := R.tr.ex h1 h2
      rw [e] at k4
      cases k4
theorem Rel.frameN (R : Rel K P G F ρ σ H) {a : Addr} (e : frameOf ρ σ H F as a = none) : F a = none := by
  cases q : F a with
  | none => rfl
  | some o => rw [R.frameF q] at e; cases e
/-- what the callee meets -/
theorem Rel.lend (R : Rel K P G F ρ σ H) {vs : List V} (ha : ArL K G σ as vs) (ho : ∀ i ∈ iosOf as, isOwn ρ i) (hn : (iosOf as).Nodup) : Rel K (pinL σ 0 as) G (frameOf ρ σ H F as) (as.map (res ρ)) (vs.map some) H := by
  have atIo : ∀ {j : Nat} {b : Bool} {xs : List D}, (as.map (res ρ))[j]? = some (.own b xs) → b = true ∧ ∃ i c, as[j]? = some (Ar.io i) ∧ ρ[i]? = some (.own c xs) := fun {j b xs} e => by
    rw [List.getElem?_map] at e
    cases q : as[j]? with
    | none => rw [q] at e; cases e
    | some a =>
      rw [q] at e
      obtain ⟨i, c, h1, h2, h3⟩ := res_own (Option.some.inj e)
      exact ⟨h2, i, c, congrArg some h1, h3⟩
  have noT : ∀ {j : Nat} {t : Tr}, (as.map (res ρ))[j]? ≠ some (.tre t) := fun {j t} e => by
    rw [List.getElem?_map] at e
    cases q : as[j]? with
    | none => rw [q] at e; cases e
    | some a =>
      rw [q] at e
      exact res_tre (Option.some.inj e)
  refine ⟨by rw [List.length_map, List.length_map]; exact ha.length, R.sg, fun a o e => ?_, fun a o e => ?_, fun j d e => ?_, fun j b xs e => ?_, fun j k a b xs c ys e1 e2 e3 e4 => ?_, fun p hp => ?_, fun j xs e => ?_, ⟨fun i t e => absurd e noT, fun i t j c ys a e => absurd e noT, fun i t j u e => absurd e noT⟩⟩
  · by_cases h : (∃ (j : Nat) (b : Bool) (xs : List D), ρ[j]? = some (.own b xs) ∧ σ[j]? = some (some (.ref a)) ∧ j ∉ iosOf as) ∨ ∃ (j : Nat) (t : Tr), ρ[j]? = some (.tre t) ∧ a ∈ t.foot
    · rcases h with ⟨j, b, xs, h1, h2, h3⟩ | ⟨j, t, h1, h2⟩
      · rwa [frameOf_yes h1 h2 h3] at e
      · rwa [frameOf_tre h1 h2] at e
    · rw [frameOf_no h] at e
      exact R.sf a o e
  · by_cases h : (∃ (j : Nat) (b : Bool) (xs : List D), ρ[j]? = some (.own b xs) ∧ σ[j]? = some (some (.ref a)) ∧ j ∉ iosOf as) ∨ ∃ (j : Nat) (t : Tr), ρ[j]? = some (.tre t) ∧ a ∈ t.foot
    · rcases h with ⟨j, b, xs, h1, h2, h3⟩ | ⟨j, t, h1, h2⟩
      · obtain ⟨c, vs, k1, _, k3, _⟩ := R.own j b xs h1
        rw [h2] at k1
        cases k1
        exact k3
      · exact (R.tr.ex h1 h2).2.1
    · rw [frameOf_no h] at e
      exact R.gf a o e
  · rw [List.getElem?_map] at e
    cases q : as[j]? with
    | none => rw [q] at e; cases e
    | some a =>
      rw [q] at e
      have e' := res_dat (Option.some.inj e)
      rw [e'] at q
      obtain ⟨v, h1, h2⟩ := ha.get q
      exact ⟨v, by rw [List.getElem?_map, h1]; rfl, h2⟩
  · obtain ⟨_, i, c, q1, q2⟩ := atIo e
    obtain ⟨v, h1, h2⟩ := ha.get q1
    have h2' : σ[i]? = some (some v) := h2
    obtain ⟨a, us, k1, k2, k3, k4, k5⟩ := R.own i c xs q2
    rw [k1] at h2'
    cases h2'
    refine ⟨a, us, by rw [List.getElem?_map, h1]; rfl, k2, k3, ?_, k5⟩
    rw [frameOf_no]
    · exact k4
    · rintro (⟨j', b', xs', m1, m2, m3⟩ | ⟨j', t, m1, m2⟩)
      · have e' := R.ne j' i a _ _ _ _ m1 q2 m2 k1
        rw [e'] at m3
        exact m3 (mem_ios.mpr ⟨j, q1⟩)
      · exact R.tr.own j' t i c xs a m1 q2 k1 m2
  · obtain ⟨_, i1, c1, q1, q2⟩ := atIo e1
    obtain ⟨_, i2, c2, r1, r2⟩ := atIo e2
    obtain ⟨v1, h1, h2⟩ := ha.get q1
    obtain ⟨v2, h3, h4⟩ := ha.get r1
    rw [List.getElem?_map, h1] at e3
    rw [List.getElem?_map, h3] at e4
    cases e3
    cases e4
    have e' := R.ne i1 i2 a _ _ _ _ q2 r2 h2 h4
    rw [e'] at q1
    exact ios_inj hn q1 r1
  · obtain ⟨j, i, q1, q2, q3⟩ := mem_pinL.mp hp
    rw [Nat.zero_add] at q3
    obtain ⟨v, h1, h2⟩ := ha.get q1
    have h2' : σ[i]? = some (some v) := h2
    rw [q2] at h2'
    cases h2'
    obtain ⟨b, xs, hb⟩ := (ho i (mem_ios.mpr ⟨j, q1⟩)).ex
    refine ⟨by rw [q3, List.getElem?_map, h1]; rfl, xs, ?_⟩
    rw [q3, List.getElem?_map, q1]
    show some (res ρ (.io i)) = _
    rw [res_io hb]
  · obtain ⟨_, i, c, q1, q2⟩ := atIo e
    obtain ⟨a, us, k1, _⟩ := R.own i c xs q2
    exact ⟨a, mem_pinL.mpr ⟨j, i, q1, k1, by rw [Nat.zero_add]⟩⟩
/-- what the caller finds behind -/
theorem Rel.back (R : Rel K P G F ρ σ H) (ho : ∀ i ∈ iosOf as, isOwn ρ i) (hn : (iosOf as).Nodup) {ρp : List Sv} (B : Back K (pinL σ 0 as) G' (frameOf ρ σ H F as) ρp H') (s : Same G G') : Rel K P G' F (put ρ as ρp) σ H' := by
  have wasOwn : ∀ {i : Nat} {b : Bool} {xs : List D}, (put ρ as ρp)[i]? = some (.own b xs) → ∃ ys, ρ[i]? = some (.own b ys) := fun {i b xs} e => by
    rcases put_get hn e with ⟨k, ys, b', zs, h1, h2, h3, h4⟩ | ⟨h1, _⟩
    · cases h4
      exact ⟨zs, h3⟩
    · exact ⟨xs, h1⟩
  have wasTre : ∀ {i : Nat} {t : Tr}, (put ρ as ρp)[i]? = some (.tre t) → ρ[i]? = some (.tre t) := fun {i t} e => by
    rcases put_get hn e with ⟨k, ys, b', zs, h1, h2, h3, h4⟩ | ⟨h1, _⟩
    · cases h4
    · exact h1
  refine ⟨by rw [put_len]; exact R.len, B.sg, fun a o e => B.sf a o (R.frameF e), fun a o e => B.gf a o (R.frameF e), fun i d e => ?_, fun i b xs e => ?_, fun i j a b xs c ys e1 e2 => ?_, fun p hp => ?_, fun i xs e => ?_, R.tr.step (fun i t e => ⟨wasTre e, rfl⟩) s (fun i t a e ha => ?_) fun j c ys a i t e1 e2 e3 => ?_⟩
  · rcases put_get hn e with ⟨k, ys, b', zs, h1, h2, h3, h4⟩ | ⟨h1, _⟩
    · cases h4
    · obtain ⟨v, k1, k2⟩ := R.dat i d h1
      exact ⟨v, k1, k2.mono s⟩
  · obtain ⟨ys, hy⟩ := wasOwn e
    obtain ⟨a, us, k1, k2, k3, k4, k5⟩ := R.own i b ys hy
    by_cases hi : i ∈ iosOf as
    · obtain ⟨j, hj⟩ := mem_ios.mp hi
      obtain ⟨zs, ws, m1, m2, m3, m4⟩ := B.io (j, a) (mem_pinL.mpr ⟨j, i, hj, k1, by simp⟩)
      rcases put_get hn e with ⟨k, ys', b', zs', h1, h2, h3, h4⟩ | ⟨h1, h2⟩
      · cases h4
        have ek := ios_inj hn hj h1
        subst ek
        have m1' : ρp[j]? = some (.own true zs) := m1
        rw [h2] at m1'
        cases m1'
        exact ⟨a, ws, k1, m2, m3, k4, m4⟩
      · exact absurd rfl (h2 j zs hj m1 b xs)
    · rcases put_get hn e with ⟨k, ys', b', zs', h1, h2, h3, h4⟩ | ⟨h1, h2⟩
      · exact absurd (mem_ios.mpr ⟨k, h1⟩) hi
      · rw [hy] at h1
        cases h1
        have fa : frameOf ρ σ H F as a = some (.lst us) := by rw [frameOf_yes hy k1 hi]; exact k2
        exact ⟨a, us, k1, B.sf _ _ fa, B.gf _ _ fa, k4, k5.mono s⟩
  · obtain ⟨xs', h1⟩ := wasOwn e1
    obtain ⟨ys', h2⟩ := wasOwn e2
    exact R.ne i j a b xs' c ys' h1 h2
  · obtain ⟨k1, xs, k2⟩ := R.pin p hp
    obtain ⟨ys, k3⟩ := put_own (as := as) (ps := ρp) k2
    exact ⟨k1, ys, k3⟩
  · obtain ⟨ys, hy⟩ := wasOwn e
    exact R.pinc i ys hy
  · have e := wasTre e
    obtain ⟨⟨ov, k1⟩, k2, k3⟩ := R.tr.ex e ha
    have fa : frameOf ρ σ H F as a = some ov := by rw [frameOf_tre e ha]; exact k1
    exact ⟨by rw [k1]; exact B.sf _ _ fa, B.gf _ _ fa, k3⟩
  · obtain ⟨zs, hz⟩ := wasOwn e1
    exact R.tr.own i t j c zs a (wasTre e3) hz e2
theorem Rel.backOwn (R : Rel K P G F ρ σ H) (hn : (iosOf as).Nodup) {ρp : List Sv} {b : Bool} {xs : List D} {v : V} (r : Rr K (pinL σ 0 as) G' (frameOf ρ σ H F as) (.own b xs) v H') :
    ∃ a vs, v = .ref a ∧ H' a = some (.lst vs) ∧ G' a = none ∧ F a = none ∧ NoS (put ρ as ρp) σ a ∧ RpL K G' xs vs := by
  obtain ⟨a, vs, e, h1, h2, h3, h4, h5⟩ := r
  refine ⟨a, vs, e, h1, h2, R.frameN h3, ⟨fun i c ys q z => ?_, fun i t q hb => ?_⟩, h5⟩
  rotate_left
  · rcases put_get hn q with ⟨k, ys', b', zs, m1, m2, m3, m4⟩ | ⟨m1, _⟩
    · cases m4
    · rw [frameOf_tre m1 hb] at h3
      obtain ⟨⟨us, k1⟩, _⟩ := R.tr.ex m1 hb
      rw [k1] at h3
      cases h3
  have hy : ∃ zs, ρ[i]? = some (.own c zs) := by
    rcases put_get hn q with ⟨k, ys', b', zs, m1, m2, m3, m4⟩ | ⟨m1, _⟩
    · cases m4; exact ⟨zs, m3⟩
    · exact ⟨ys, m1⟩
  obtain ⟨zs, hz⟩ := hy
  by_cases hi : i ∈ iosOf as
  · obtain ⟨j, hj⟩ := mem_ios.mp hi
    exact h4 (j, a) (mem_pinL.mpr ⟨j, i, hj, z, by simp⟩) rfl
  · rw [frameOf_yes hz z hi] at h3
    obtain ⟨c', us, k1, k2, _⟩ := R.own i c zs hz
    rw [z] at k1
    cases k1
    rw [h3] at k2
    cases k2
end
end VS
/-! VSk: the call's rules; the law's end. -/
namespace VS
open PySem PySem.Spec PyProof.Rows L2
/-! ### argument lists that may lend -/
abbrev AAr := List Sv → (List Ar → List Sv → Prop) → KX → Prop
structure RX (X : Cx) (W : WX) (es : List Expr) (t : AAr) : Prop where
  ex : ∃ T : TA, PA X es T ∧ ∀ P G F ρ σ H (Q : List Ar → List Sv → Prop) (Z : KX) (Q' : List V → Hp → Prop), Rel X.K P G F ρ σ H → t ρ Q Z → XIn X W P G F σ Z →
    (∀ G' ρ' H' vs as, Rel X.K P G' F ρ' σ H' → Same G G' → ArL X.K G' σ as vs → as.length = es.length → Q as ρ' → Q' vs H') → T σ H Q'
def rNil : AAr := fun ρ Q _ => Q [] ρ
def rDat (t : AE) (u : AAr) : AAr := fun ρ Q Z => t ρ (fun d ρ1 => u ρ1 (fun as ρ2 => Q (.dat d :: as) ρ2) Z) Z
def rIo (i : Nat) (u : AAr) : AAr := fun ρ Q Z => isOwn ρ i ∧ u ρ (fun as ρ2 => Q (.io i :: as) ρ2) Z
section
variable {X : Cx} {W : WX} {pos p : Pos} {a : Expr} {es : List Expr} {ta : AE} {u : AAr}
theorem r_nil : RX X W [] rNil := ⟨_, pa_nil, fun P G F ρ σ H Q Z Q' R h hz hq => hq G ρ H [] [] R (Same.refl _) rfl rfl h⟩
theorem r_dat (ea : EX X W a ta) (k : RX X W es u) (hs : starEach (a :: es) X.env = (false, eval a X.env) :: starEach es X.env := by rfl) : RX X W (a :: es) (rDat ta u) := by
  obtain ⟨T, p, r⟩ := ea.ex
  obtain ⟨U, p', r'⟩ := k.ex
  refine ⟨_, pa_cons p p' hs, fun P G F ρ σ H Q Z Q' R h hz hq => ?_⟩
  refine r P G F ρ σ H _ Z _ R h hz fun G1 ρ1 H1 v d R1 s1 rv q => ?_
  exact r' P G1 F ρ1 σ H1 _ Z _ R1 q (hz.mono s1) fun G2 ρ2 H2 vs as R2 s2 rs hl q => hq G2 ρ2 H2 (v :: vs) (.dat d :: as) R2 (s1.trans s2) (show ArL X.K G2 σ (.dat d :: as) (v :: vs) from ⟨v, vs, rfl, rv.mono s2, rs⟩) (congrArg Nat.succ hl) q
theorem r_io (i : Nat) {x : Str} (k : RX X W es u) (hN : X.N[i]? = some x := by rfl) (hv : Vis X.env.scope x := by first | exact Or.inl rfl | exact Or.inr (Or.inl rfl) | exact Or.inr (Or.inr rfl)) (hd : (x == ("__debug__" : Str)) = false := by decide)
    (hcd : (x == ("__classdict__" : Str)) = false := by decide) (hs : starEach (.Name x p :: es) X.env = (false, eval (.Name x p) X.env) :: starEach es X.env := by rfl) : RX X W (.Name x p :: es) (rIo i u) := by
  obtain ⟨U, p', r'⟩ := k.ex
  refine ⟨_, pa_cons (pe_var hN hv hd hcd) p' hs, fun P G F ρ σ H Q Z Q' R ⟨h0, h⟩ hz hq => ?_⟩
  obtain ⟨b, xs, e⟩ := h0.ex
  obtain ⟨a, vs, g1, _⟩ := R.own i b xs e
  refine ⟨_, g1, r' P G F ρ σ H _ Z _ R h hz fun G2 ρ2 H2 vs as R2 s2 rs hl q => hq G2 ρ2 H2 (.ref a :: vs) (.io i :: as) R2 s2 (show ArL X.K G2 σ (.io i :: as) (.ref a :: vs) from ⟨_, vs, rfl, g1, rs⟩) (congrArg Nat.succ hl) q⟩
/-! ### the call itself -/
theorem run_g {k : Nat} {f : Addr} {fd : FuncData} {ps : List Str} {sp : Sp} {ds us : List Value} {dvs vs : List V} {pins : List (Addr × Obj)} {σ : St} {H : Hp} {s : Shared} {Q : VK} (F : FnG X.prog X.w X.K X.mg X.base k f fd ps sp) (rn : Run k X) (hb : Binds X.K fd ps ds) (hd : Vals dvs ds)
    (tk : L2N.Takes X W) (I : Inv X pins σ H s) (r : Vals vs us) (h : sp (vs ++ dvs) H Q (WE W σ)) : wpAny (model X.prog X.w) X.A (call (.ref f) us) (EP X pins σ Q) X.xe s := by
  have r2 := r.append hd
  have hl : (us ++ ds).length = ps.length := by rw [← r2.length, F.len _ _ _ _ h]
  refine wpAny_call (codeAny_mono (F.run X.A X.stack s H ⟨us, []⟩ _ _ Q (WE W σ) rn.hr rn.hg I.env0 (hb s us I.kIn hl) r2 h) fun z s' hq => ?_)
  match z, hq with
  | .error e, hq => exact L2N.passAt tk σ pins H s e s' I hq
  | .ok (.ret u), hq => exact I.after hq
theorem pe_g {k : Nat} {x : Str} {f : Addr} {fd : FuncData} {ps : List Str} {sp : Sp} {ds : List Value} {dvs : List V} {t : TA} (F : FnG X.prog X.w X.K X.mg X.base k f fd ps sp) (rn : Run k X) (hg : Gl X x) (hm : X.mg x = some (.ref f)) (hk : PySem.W.keepIn X.K (.ref f) = true) (hb : Binds X.K fd ps ds) (hd : Vals dvs ds)
    (tk : L2N.Takes X W) (ha : PA X (a :: es) t) (hdb : (x == ("__debug__" : Str)) = false := by decide) (he : starEach (a :: es) X.env = (false, eval a X.env) :: starEach es X.env := by rfl) (hpl : (backTo pos (starEach es X.env)).any (·.1) = false := by rfl) :
    PE X (.Call (.Name x p) (a :: es) [] pos) (fun σ H Q => t σ H fun vs H1 => sp (vs ++ dvs) H1 Q (WE W σ)) := by
  refine ⟨fun pins s σ H Q I h => wpAny_Call_Name_kw (ld_glob I hg hm ?_ hdb)⟩
  exact PySem.W.callWith_K (h₀ := X.base) I.ok.mod.kin hk (thn (ha.run pos pins s σ H _ I h) fun us s1 ⟨vs, H1, I1, r, q⟩ => ⟨I1.kIn, run_g F rn hb hd tk I1 r q⟩) he hpl
theorem pe_g0 {k : Nat} {x : Str} {f : Addr} {fd : FuncData} {ps : List Str} {sp : Sp} {ds : List Value} {dvs : List V} (F : FnG X.prog X.w X.K X.mg X.base k f fd ps sp) (rn : Run k X) (hg : Gl X x) (hm : X.mg x = some (.ref f)) (hk : PySem.W.keepIn X.K (.ref f) = true) (hb : Binds X.K fd ps ds) (hd : Vals dvs ds)
    (tk : L2N.Takes X W) (hdb : (x == ("__debug__" : Str)) = false := by decide) : PE X (.Call (.Name x p) [] [] pos) (fun σ H Q => sp dvs H Q (WE W σ)) := by
  refine ⟨fun pins s σ H Q I h => wpAny_Call_Name_kw (ld_glob I hg hm ?_ hdb)⟩
  exact PySem.W.callWith_K0 I.kIn hk (run_g (us := []) (vs := []) F rn hb hd tk I .nil h)
/-- what stands of a def: where it is, its contract -/
structure DefC (P : Program) (w : World) (K : PySem.W.Frag) (mg : Str → Option Value) (base : Heap) (k : Nat) (x : Str) (ps : List Str) (dds : List D) (c : Ctr) : Prop where
  ex : ∃ (f : Addr) (fd : FuncData) (ds : List Value) (dvs : List V), FnG P w K mg base k f fd ps (spV K ps.length c) ∧ mg x = some (.ref f) ∧ PySem.W.keepIn K (.ref f) = true ∧ Binds K fd ps ds ∧ Vals dvs ds ∧ ∀ G, RpL K G dds dvs
abbrev Def (X : Cx) (k : Nat) (x : Str) (ps : List Str) (dds : List D) (c : Ctr) : Prop := DefC X.prog X.w X.K X.mg X.base k x ps dds c
theorem Run.blk {X : Cx} {k : Nat} {s : Shared} {H : Hp} {scope : Scope} {cenv : Env} {fp : List Addr} (r : Run k X) : Run k (X.blk s H scope cenv fp) := ⟨r.hr, r.hg, r.hs⟩
theorem tk0 {X : Cx} : L2N.Takes X noW := fun u s' ⟨_, _, _, _, _, _, _, _, _, _, _, _, _, _, _, _, z⟩ => z.elim
theorem ArL.append {K : PySem.W.Frag} {G : Hp} {σ : St} : ∀ {as bs : List Ar} {vs us : List V}, ArL K G σ as vs → ArL K G σ bs us → ArL K G σ (as ++ bs) (vs ++ us)
  | [], _, _, _, h, k => by rw [show _ = [] from h]; exact k
  | _ :: _, _, _, _, ⟨v, r, h1, h2, h3⟩, k => ⟨v, _, by rw [h1]; rfl, h2, ArL.append h3 k⟩
theorem ArL.dats {K : PySem.W.Frag} {G : Hp} {σ : St} : ∀ {ds : List D} {vs : List V}, RpL K G ds vs → ArL K G σ (ds.map Ar.dat) vs
  | [], _, h => rpl_nil.mp h
  | d :: ds, _, h => by
    obtain ⟨v, r, h1, h2, h3⟩ := rpl_cons.mp h
    exact ⟨v, r, h1, h2, ArL.dats h3⟩
theorem ios_dats : ∀ (as : List Ar) (ds : List D), iosOf (as ++ ds.map Ar.dat) = iosOf as
  | [], [] => rfl
  | [], d :: ds => ios_dats [] ds
  | .dat _ :: as, ds => ios_dats as ds
  | .io i :: as, ds => congrArg (i :: ·) (ios_dats as ds)
/-- the lent lists are there, each once -/
def lendOk (ρ : List Sv) (as : List Ar) : Prop := (∀ i ∈ iosOf as, isOwn ρ i) ∧ (iosOf as).Nodup
/-- a call: its result is data (an own list becomes data) -/
def aDef (c : Ctr) (dds : List D) (t : AAr) : AE := fun ρ Q Z => t ρ (fun as ρ1 => lendOk ρ1 as ∧ c ((as.map (res ρ1)) ++ dds.map .dat) (fun r ρp => match r with
  | .dat d => Q d (put ρ1 as ρp)
  | .own _ xs => Q (.lst xs) (put ρ1 as ρp)
  | _ => False) fun x ρp => Z x (put ρ1 as ρp)) Z
/-- a call that gives a list of its own -/
def oDef (c : Ctr) (dds : List D) (t : AAr) : AO := fun ρ Q Z => t ρ (fun as ρ1 => lendOk ρ1 as ∧ c ((as.map (res ρ1)) ++ dds.map .dat) (fun r ρp => match r with
  | .own _ xs => Q xs (put ρ1 as ρp)
  | _ => False) fun x ρp => Z x (put ρ1 as ρp)) Z
theorem put_dats {ρ : List Sv} : ∀ (as : List Ar) (ds : List D) (ρp : List Sv) , put ρ (as ++ ds.map Ar.dat) ρp = put ρ as ρp
  | [], [], ρp => rfl
  | [], d :: ds, [] => rfl
  | [], d :: ds, p :: ps => by
    show put ρ ([] ++ ds.map Ar.dat) ps = _
    rw [put_dats [] ds ps]
    cases ps <;> rfl
  | .dat _ :: as, ds, [] => rfl
  | .dat _ :: as, ds, p :: ps => put_dats as ds ps
  | .io i :: as, ds, [] => rfl
  | .io i :: as, ds, .un :: ps => put_dats as ds ps
  | .io i :: as, ds, .pr _ _ :: ps => put_dats as ds ps
  | .io i :: as, ds, .tre _ :: ps => put_dats as ds ps
  | .io i :: as, ds, .dat _ :: ps => put_dats as ds ps
  | .io i :: as, ds, .own false _ :: ps => put_dats as ds ps
  | .io i :: as, ds, .own true xs :: ps => put_dats (ρ := setOwn ρ i xs) as ds ps
theorem map_dats {ρ : List Sv} (as : List Ar) (ds : List D) : (as ++ ds.map Ar.dat).map (res ρ) = as.map (res ρ) ++ ds.map .dat := by
  rw [List.map_append, List.map_map]
  rfl
/-- both kinds of calls -/
theorem call_core {x : Str} {ps : List Str} {dds : List D} {c : Ctr} {dvs : List V} {P : List (Nat × Addr)} {G F : Hp} {ρ : List Sv} {σ : St} {H : Hp} {as : List Ar} {vs : List V} {Q' : VK} {Qa : Sv → List Sv → Prop} {Za : Exc → List Sv → Prop} {Z : KX}
    (R : Rel X.K P G F ρ σ H) (hl : (vs ++ dvs).length = ps.length) (ha : ArL X.K G σ as vs) (hdd : ∀ G, RpL X.K G dds dvs) (ok : lendOk ρ as) (hc : c (as.map (res ρ) ++ dds.map .dat) Qa Za) (hz : XIn X W P G F σ Z) (hZ : ∀ x ρp, Za x ρp → Z x (put ρ as ρp))
    (hq : ∀ G' ρp H' r v, Rel X.K P G' F (put ρ as ρp) σ H' → Same G G' → (∀ d, r = .dat d → Rp X.K G' d v) → (∀ b xs, r = .own b xs → ∃ a us, v = .ref a ∧ H' a = some (.lst us) ∧ G' a = none ∧ F a = none ∧ (NoS (put ρ as ρp) σ a) ∧ RpL X.K G' xs us) → r ≠ .un → Qa r ρp → Q' v H') :
    spV X.K ps.length c (vs ++ dvs) H Q' (WE W σ) := by
  have ha2 : ArL X.K G σ (as ++ dds.map Ar.dat) (vs ++ dvs) := ha.append (ArL.dats (hdd G))
  have ok2 : lendOk ρ (as ++ dds.map Ar.dat) := by unfold lendOk; rw [ios_dats]; exact ok
  have R2 := R.lend ha2 ok2.1 ok2.2
  refine ⟨hl, _, G, _, _, Qa, Za, R2, by rw [map_dats]; exact hc, fun G' ρp H' r v B s rr q => ?_, fun G' ρp H' x cls d B s e q => ?_⟩
  · have R3 := R.back ok2.1 ok2.2 B s
    rw [put_dats] at R3
    refine hq G' ρp H' r v R3 s (fun d e => by rw [e] at rr; exact rr) (fun b xs e => ?_) (fun e => by rw [e] at rr; exact rr) q
    rw [e] at rr
    have z := R.backOwn ok2.2 (ρp := ρp) rr
    rw [put_dats] at z
    exact z
  · have R3 := R.back ok2.1 ok2.2 B s
    rw [put_dats] at R3
    exact hz G' _ H' x cls d R3 s e (hZ x ρp q)
theorem e_def {k : Nat} {x : Str} {ps : List Str} {dds : List D} {c : Ctr} (d : Def X k x ps dds c) (rn : Run k X) (tk : L2N.Takes X W) (hg : Gl X x) (ha : RX X W (a :: es) u) (hlen : (a :: es).length + dds.length = ps.length := by rfl) (hdb : (x == ("__debug__" : Str)) = false := by decide)
    (he : starEach (a :: es) X.env = (false, eval a X.env) :: starEach es X.env := by rfl) (hpl : (backTo pos (starEach es X.env)).any (·.1) = false := by rfl) : EX X W (.Call (.Name x p) (a :: es) [] pos) (aDef c dds u) := by
  obtain ⟨f, fd, ds, dvs, FF, hm, hk, hb, hd, hdd⟩ := d.ex
  obtain ⟨T, pa, r⟩ := ha.ex
  refine ⟨_, pe_g FF rn hg hm hk hb hd tk pa hdb he hpl, fun P G F ρ σ H Q Z Q' R h hz hq => ?_⟩
  refine r P G F ρ σ H _ Z _ R h hz fun G1 ρ1 H1 vs as R1 s1 rs hl ⟨ok, q⟩ => ?_
  refine call_core (x := x) R1 (by rw [List.length_append, ← rs.length, hl, ← (hdd G).length]; exact hlen) rs hdd ok q (hz.mono s1) (fun _ _ z => z) fun G2 ρp H2 r v R2 s2 h1 h2 h3 q => ?_
  cases r with
  | un => exact q.elim
  | pr _ _ => exact q.elim
  | tre _ => exact q.elim
  | dat d => exact hq G2 _ H2 v d R2 (s1.trans s2) (h1 d rfl) q
  | own b xs =>
    obtain ⟨a', us, rfl, k1, k2, k3, k4, k5⟩ := h2 b xs rfl
    have sG : Same G2 (upd G2 a' (.lst us)) := same_new k2
    exact hq _ _ H2 _ (.lst xs) (R2.keep k1 k2 k3 k4) ((s1.trans s2).trans sG) (rp_lst.mpr ⟨a', us, rfl, SqL.of upd_same, k5.mono sG⟩) q
theorem o_def {k : Nat} {x : Str} {ps : List Str} {dds : List D} {c : Ctr} (d : Def X k x ps dds c) (rn : Run k X) (tk : L2N.Takes X W) (hg : Gl X x) (ha : RX X W (a :: es) u) (hlen : (a :: es).length + dds.length = ps.length := by rfl) (hdb : (x == ("__debug__" : Str)) = false := by decide)
    (he : starEach (a :: es) X.env = (false, eval a X.env) :: starEach es X.env := by rfl) (hpl : (backTo pos (starEach es X.env)).any (·.1) = false := by rfl) : EO X W (.Call (.Name x p) (a :: es) [] pos) (oDef c dds u) := by
  obtain ⟨f, fd, ds, dvs, FF, hm, hk, hb, hd, hdd⟩ := d.ex
  obtain ⟨T, pa, r⟩ := ha.ex
  refine ⟨_, pe_g FF rn hg hm hk hb hd tk pa hdb he hpl, fun P G F ρ σ H Q Z Q' R h hz hq => ?_⟩
  refine r P G F ρ σ H _ Z _ R h hz fun G1 ρ1 H1 vs as R1 s1 rs hl ⟨ok, q⟩ => ?_
  refine call_core (x := x) R1 (by rw [List.length_append, ← rs.length, hl, ← (hdd G).length]; exact hlen) rs hdd ok q (hz.mono s1) (fun _ _ z => z) fun G2 ρp H2 r v R2 s2 h1 h2 h3 q => ?_
  cases r with
  | un => exact q.elim
  | pr _ _ => exact q.elim
  | tre _ => exact q.elim
  | dat d => exact q.elim
  | own b xs =>
    obtain ⟨a', us, rfl, k1, k2, k3, k4, k5⟩ := h2 b xs rfl
    exact hq G2 _ H2 a' us xs R2 (s1.trans s2) k1 k2 k3 k4 k5 q
/-- no arguments -/
theorem e_def0 {k : Nat} {x : Str} {ps : List Str} {dds : List D} {c : Ctr} (d : Def X k x ps dds c) (rn : Run k X) (tk : L2N.Takes X W) (hg : Gl X x) (hlen : dds.length = ps.length := by rfl) (hdb : (x == ("__debug__" : Str)) = false := by decide) : EX X W (.Call (.Name x p) [] [] pos) (aDef c dds rNil) := by
  obtain ⟨f, fd, ds, dvs, FF, hm, hk, hb, hd, hdd⟩ := d.ex
  refine ⟨_, pe_g0 FF rn hg hm hk hb hd tk hdb, fun P G F ρ σ H Q Z Q' R ⟨ok, q⟩ hz hq => ?_⟩
  refine call_core (x := x) (as := []) (vs := []) R (by rw [List.nil_append, ← (hdd G).length]; exact hlen) rfl hdd ok q hz (fun _ _ z => z) fun G2 ρp H2 r v R2 s2 h1 h2 h3 q => ?_
  cases r with
  | un => exact q.elim
  | pr _ _ => exact q.elim
  | tre _ => exact q.elim
  | dat d => exact hq G2 _ H2 v d R2 s2 (h1 d rfl) q
  | own b xs =>
    obtain ⟨a', us, rfl, k1, k2, k3, k4, k5⟩ := h2 b xs rfl
    have sG : Same G2 (upd G2 a' (.lst us)) := same_new k2
    exact hq _ _ H2 _ (.lst xs) (R2.keep k1 k2 k3 k4) (s2.trans sG) (rp_lst.mpr ⟨a', us, rfl, SqL.of upd_same, k5.mono sG⟩) q
/-- the arguments of a call that only reads -/
structure VRs (X : Cx) (es : List Expr) (t : VA) : Prop where
  ex : ∃ T : TA, PA X es T ∧ ∀ P G F ρ σ H (Q : List D → Prop) (Q' : List V → Hp → Prop), Rel X.K P G F ρ σ H → t ρ Q →
    (∀ G' H' vs ds, Rel X.K P G' F ρ σ H' → Same G G' → Same H H' → RpL X.K H' ds vs → ds.length = es.length → Q ds → Q' vs H') → T σ H Q'
theorem vr_nil : VRs X [] vNil := ⟨_, pa_nil, fun P G F ρ σ H Q Q' R h hq => hq G H [] [] R (Same.refl _) (Same.refl _) RpL.nil rfl h⟩
theorem vr_cons {va : AV} {w : VA} (ea : VW X a va) (k : VRs X es w) (hs : starEach (a :: es) X.env = (false, eval a X.env) :: starEach es X.env := by rfl) : VRs X (a :: es) (vCons va w) := by
  obtain ⟨T, p, r⟩ := ea.ex
  obtain ⟨U, p', r'⟩ := k.ex
  refine ⟨_, pa_cons p p' hs, fun P G F ρ σ H Q Q' R h hq => ?_⟩
  refine r P G F ρ σ H _ _ R h fun G1 H1 v d R1 s1 k1 rv q => ?_
  exact r' P G1 F ρ σ H1 _ _ R1 q fun G2 H2 vs ds R2 s2 k2 rs hl q => hq G2 H2 _ _ R2 (s1.trans s2) (k1.trans k2) (RpL.cons (rv.mono k2) rs) (congrArg Nat.succ hl) q
/-- a call that only reads, of views -/
def vDef (c : Ctr) (dds : List D) (t : VA) : AV := fun ρ Q => t ρ fun as => c (as.map .dat ++ dds.map .dat) (fun r _ => match r with
  | .dat d => Q d
  | .own _ xs => Q (.lst xs)
  | _ => False) fun _ _ => False
theorem v_def {k : Nat} {x : Str} {ps : List Str} {dds : List D} {c : Ctr} {w' : VA} (d : Def X k x ps dds c) (rn : Run k X) (tk : L2N.Takes X noW) (hg : Gl X x) (ha : VRs X (a :: es) w') (hlen : (a :: es).length + dds.length = ps.length := by rfl) (hdb : (x == ("__debug__" : Str)) = false := by decide)
    (he : starEach (a :: es) X.env = (false, eval a X.env) :: starEach es X.env := by rfl) (hpl : (backTo pos (starEach es X.env)).any (·.1) = false := by rfl) : VW X (.Call (.Name x p) (a :: es) [] pos) (vDef c dds w') := by
  obtain ⟨f, fd, ds, dvs, FF, hm, hk, hb, hd, hdd⟩ := d.ex
  obtain ⟨T, pa, r⟩ := ha.ex
  refine ⟨_, pe_g (W := noW) FF rn hg hm hk hb hd tk pa hdb he hpl, fun P G F ρ σ H Q Q' R h hq => ?_⟩
  refine r P G F ρ σ H _ _ R h fun G1 H1 vs as R1 s1 k1 rs hl q => ?_
  have rs2 : RpL X.K H1 (as ++ dds) (vs ++ dvs) := rs.append (hdd H1)
  have getM : ∀ {i : Nat} {s : Sv}, (as.map Sv.dat ++ dds.map Sv.dat)[i]? = some s → ∃ d, s = .dat d ∧ (as ++ dds)[i]? = some d := fun {i s} e => by
    rw [← List.map_append, List.getElem?_map] at e
    cases z : (as ++ dds)[i]? with
    | none => rw [z] at e; cases e
    | some d => rw [z] at e; exact ⟨d, (Option.some.inj e).symm, rfl⟩
  have R0 : Rel X.K [] H1 (fun _ => none) (as.map .dat ++ dds.map .dat) ((vs ++ dvs).map some) H1 := by
    refine ⟨by rw [← List.map_append, List.length_map, List.length_map]; exact rs2.length, Same.refl _, fun _ _ e => (by cases e), fun _ _ e => (by cases e), fun i d e => ?_, fun i b xs e => ?_, fun i j a b xs c ys e => ?_, fun p hp => (by cases hp), fun i xs e => ?_, ⟨fun i t e => ?_, fun i t j c ys a e => ?_, fun i t j u e => ?_⟩⟩
    rotate_right 3
    · obtain ⟨d', z1, _⟩ := getM e; cases z1
    · obtain ⟨d', z1, _⟩ := getM e; cases z1
    · obtain ⟨d', z1, _⟩ := getM e; cases z1
    · obtain ⟨d', z1, z2⟩ := getM e
      cases z1
      obtain ⟨v, m1, m2⟩ := rs2.get z2
      exact ⟨v, by rw [List.getElem?_map, m1]; rfl, m2⟩
    · obtain ⟨d', z1, _⟩ := getM e; cases z1
    · obtain ⟨d', z1, _⟩ := getM e; cases z1
    · obtain ⟨d', z1, _⟩ := getM e; cases z1
  have hl2 : (vs ++ dvs).length = ps.length := by rw [← rs2.length, List.length_append, hl]; exact hlen
  refine ⟨hl2, [], H1, _, _, _, _, R0, q, fun G' ρp H' r v B s rr q => ?_, fun G' ρp H' x cls d B s e q => q.elim⟩
  have sH : Same H1 H' := s.trans B.sg
  have g : Grow H1 H1 H1 H' := ⟨Same.refl _, sH, sH, fun _ _ _ z => z⟩
  cases r with
  | un => exact q.elim
  | pr _ _ => exact q.elim
  | tre _ => exact q.elim
  | dat d => exact hq G1 H' v d (R1.growV g) s1 (k1.trans sH) (Rp.mono B.sg rr) q
  | own b xs =>
    obtain ⟨a', us, rfl, m1, m2, _, _, m5⟩ := rr
    exact hq G1 H' _ (.lst xs) (R1.growV g) s1 (k1.trans sH) (rp_lst.mpr ⟨a', us, rfl, SqL.of m1, m5.mono B.sg⟩) q
end
end VS
/-! VSl: the law's end. -/
namespace VS
open PySem PySem.Spec PyProof.Rows L2
/-- what is promised of a law: a list of at most 63 ints is answered by True -/
def lawC : Ctr := fun ρ Q _ => ∃ ns : List Int, ns.length ≤ 63 ∧ ρ = [.dat (.lst (ns.map .int))] ∧ ∀ ρp, Q (.dat (.bl true)) ρp
theorem lawC_sp {K : PySem.W.Frag} {H : Hp} {a : Addr} {ns : List Int} (hl : ns.length ≤ 63) (hS : SqL K H a (ns.map V.int)) : spV K 1 lawC [.ref a] H (fun v _ => v = .bl true) (fun _ _ _ => False) := by
  have no1 : ∀ {i : Nat} {t : Tr}, [Sv.dat (.lst (ns.map .int))][i]? ≠ some (.tre t) := fun {i t} e => by
    cases i with
    | zero => cases e
    | succ i => simp at e
  refine ⟨rfl, [], H, fun _ => none, [.dat (.lst (ns.map .int))], fun r _ => r = .dat (.bl true), fun _ _ => False, ⟨rfl, Same.refl _, fun _ _ e => (by cases e), fun _ _ e => (by cases e), fun i d e => ?_, fun i b xs e => ?_, fun i j a b xs c ys e => ?_, fun p hp => (by cases hp), fun i xs e => ?_, ⟨fun i t e => absurd e no1, fun i t j c ys a e => absurd e no1, fun i t j u e => absurd e no1⟩⟩, ⟨ns, hl, rfl, fun _ => rfl⟩, fun G' ρp H' r v B s rr q => ?_, fun _ _ _ _ _ _ _ _ _ z => z⟩
  · cases i with
    | zero =>
      cases e
      exact ⟨.ref a, rfl, rp_lst.mpr ⟨a, _, rfl, hS, RpL.ints ns⟩⟩
    | succ i => simp at e
  · cases i with
    | zero => cases e
    | succ i => simp at e
  · cases i with
    | zero => cases e
    | succ i => simp at e
  · cases i with
    | zero => cases e
    | succ i => simp at e
  · subst q
    exact rp_bl.mp (show Rp K G' (.bl true) v from rr)
/-- the run of a law from an abstract heap that tracks nothing but the script -/
theorem law_core {P : Program} {w : World} {K : PySem.W.Frag} {mg mb : Str → Option Value} {k : Nat} {fa a : Addr} {fd : FuncData} {x : Str} {s₁ : Shared} {vs : List Value} {ns : List Int} {H : Hp}
    (inK : K.In s₁.heap) (nsM : s₁.heap.Ns mainGlobals mg) (nsB : s₁.heap.Ns builtinsNs mb) (bb : ∀ x : Str, x ≠ "__name__" → mb x = bootBuiltins x) (lim : s₁.heap.NoLimit) (gens : s₁.gens = #[]) (seer : s₁.heap.NoSeer)
    (ha : s₁.heap.get? a = some { cls := .type "list", data := .seq vs.toArray }) (hl : ns.length ≤ 63) (hr : Room k callerA)
    (F : ∀ base : Heap, K.In base → base.Ns mainGlobals mg → (∃ o es ep, base.get? sysModules = some o ∧ o.data = .dict es ep) → FnG P w K mg base k fa fd [x] (spV K 1 lawC)) (hbind : ∀ (s : Shared) (u : Value), BindsTo s fd ⟨[u], []⟩ [(x, u)])
    (hO : Only H) (hS : SqL K H a (ns.map V.int)) (hok : HOk P w H s₁.heap) (hA : ∀ b, H b ≠ none → b = a) (hK : H a ≠ none → K.lookup a = none) :
    codeAny (model P w) callerA (.call (.ref fa) ⟨[.ref a], []⟩) (fun r s' => r = .ok (.ret (.bool true)) ∧ OldK s₁.heap s'.heap ∧ s'.os = s₁.os ∧ AllBare s'.gens) s₁ := by
  have free : ∀ {b : Addr} {o : Obj} {es : Array DictEntry} {ep : Nat}, s₁.heap.get? b = some o → o.data = .dict es ep → H b = none := fun {b o es ep} e d => by
    cases q : H b with
    | none => rfl
    | some u =>
      obtain rfl : b = a := hA b (by rw [q]; simp)
      rw [ha] at e
      cases e
      exact absurd d (by simp)
  have nsOf : ∀ {b : Addr} {m : Str → Option Value}, s₁.heap.Ns b m → (hidT s₁.heap H).Ns b m := fun {b m} ⟨o, es, ep, e, d, r⟩ => ⟨o, es, ep, hidT_get e (free e d), d, r⟩
  have inB : K.In (hidT s₁.heap H) := fun b o e => by
    refine hidT_get (inK b o e) ?_
    cases q : H b with
    | none => rfl
    | some u =>
      obtain rfl : b = a := hA b (by rw [q]; simp)
      have z := hK (by rw [q]; simp)
      rw [z] at e
      cases e
  have M0 : Mod K mg (hidT s₁.heap H) := by
    refine ⟨inB, nsOf nsM, ⟨mb, nsOf nsB, bb⟩, ?_⟩
    obtain ⟨mc, l1, l2⟩ := lim
    exact ⟨mc, nsOf l1, l2⟩
  have sys : ∃ o es ep, (hidT s₁.heap H).get? sysModules = some o ∧ o.data = .dict es ep := by
    obtain ⟨mm, ⟨o, es, ep, e, d, _⟩, _⟩ := seer.mods
    exact ⟨o, es, ep, hidT_get e (free e d), d⟩
  have E0 : Env0 P w K mg (hidT s₁.heap H) callerA [] s₁ H := ⟨rfl, M0, fun b o e => of_hidT e, Nat.le_of_eq (hidT_size _ _), trivial, fun b hb => (by cases hb), hok, AllBare.of_eq gens⟩
  refine codeAny_mono ((F _ inB (nsOf nsM) sys).run callerA [] s₁ H ⟨[.ref a], []⟩ [.ref a] [.ref a] (fun v _ => v = .bl true) (fun _ _ _ => False) hr rfl E0 (hbind s₁ (.ref a)) (.cons rfl .nil) (lawC_sp hl hS)) fun r s' h => ?_
  match r, h with
  | .error e, h =>
    obtain ⟨_, _, _, _, _, _, _, _, _, _, _, _, z⟩ := h
    exact z.elim
  | .ok (.ret u), h =>
    obtain ⟨v, H', os, bare, un, hok', rv, q⟩ := h
    obtain rfl : v = .bl true := q
    obtain rfl : u = Value.bool true := rv
    refine ⟨rfl, OldK.of_keep fun b o e => ?_, os, bare⟩
    rcases hO b with z | ⟨ob, xs, z⟩
    · exact un.keep b o e z (fun z => by cases z) (fun z => by cases z)
    · obtain ⟨e1, _⟩ := hok b _ z
      obtain ⟨e2, _⟩ := hok' b _ (un.frzs b ob _ z)
      rw [e] at e1
      cases e1
      exact e2
/-- THE END of a law -/
theorem law_end {l : PySem.W.OpenLaw} {k : Nat} {q : Program} {loose : List Str} {XP : (Str → Option Value) → Heap → Prop} {YP : World → Heap → Prop} {d : DefRec} {KK : Params → PySem.W.Frag} {x : Str}
    (hn : l.most = some 63) (hdf : d.params.defaults = []) (hr : Room k callerA) (him : importsNone q = true) (hY : ∀ (w : World) (h : Heap), YP w h → (KK w.params).In h)
    (F : ∀ (w : World) (mg : Str → Option Value) (fa : Addr) (h : Heap), (KK w.params).In h → h.Ns mainGlobals mg → mg d.name = some (.ref fa) →
      ∃ fd : FuncData, (∀ (s : Shared) (u : Value), BindsTo s fd ⟨[u], []⟩ [(x, u)]) ∧
        ∀ base : Heap, (KK w.params).In base → base.Ns mainGlobals mg → (∃ o es ep, base.get? sysModules = some o ∧ o.data = .dict es ep) → FnG l.prog w (KK w.params) mg base k fa fd [x] (spV (KK w.params) 1 lawC)) :
    PySem.W.WalkO q loose XP YP l.row.toRowW d [] (fun f vs => PySem.call f vs) := by
  refine Att.attach_call hn hdf fun w s₀ s₁ mg mb fa o pm cd doc a vs ns G Y ho hd hcd hmg hobj hints hlen hg => ?_
  have inK := hY w _ Y
  obtain ⟨fd, hb, hF⟩ := F w mg fa _ inK G.T.g hmg
  have rv : Vals (ns.map V.int) vs := vals_ints hints
  have z63 : ns.length ≤ sizeLine := Nat.le_trans hlen (by decide)
  have go := fun (H : Hp) => law_core (H := H) (x := x) (k := k) (fd := fd) (P := l.prog) (w := w) inK G.T.g G.T.b G.T.builtins G.T.nolimit hg (G.T.seer him) hobj hlen hr hF hb
  cases hk : (KK w.params).lookup a with
  | some ob =>
    have e := inK a ob hk
    rw [hobj] at e
    cases e
    have hl2 := hints.length
    exact go (fun _ => none) (fun _ => Or.inl rfl) (Or.inr ⟨_, vs.toArray, _, hk, rfl, rfl, rfl, by rw [List.size_toArray, hl2]; exact z63, by simpa using rv⟩) (fun b u z => (by cases z)) (fun b z => absurd rfl z) (fun z => absurd rfl z)
  | none =>
    have atA : ∀ {b : Addr} {u : HO}, (if b = a then some (HO.frz { cls := .type "list", data := .seq vs.toArray } (.lst (ns.map V.int))) else none) = some u → b = a ∧ u = HO.frz { cls := .type "list", data := .seq vs.toArray } (.lst (ns.map V.int)) := fun {b u} z => by
      split at z
      · rename_i e; exact ⟨e, (Option.some.inj z).symm⟩
      · cases z
    refine go (fun b => if b = a then some (.frz { cls := .type "list", data := .seq vs.toArray } (.lst (ns.map V.int))) else none) (fun b => ?_) (Or.inl (Or.inr ⟨_, if_pos rfl⟩)) (fun b u z => ?_) (fun b z => ?_) (fun _ => hk)
    · by_cases e : b = a
      · exact Or.inr ⟨_, _, if_pos e⟩
      · exact Or.inl (if_neg e)
    · obtain ⟨rfl, rfl⟩ := atA z
      exact ⟨hobj, by rw [List.length_map]; exact z63, vs, _, rv, hobj⟩
    · by_cases e : b = a
      · exact e
      · exact absurd (if_neg e) z
end VS
/-! VSm: more rules. -/
namespace VS
open PySem PySem.Spec PyProof.Rows L2
section
variable {X : Cx} {W : WX} {pos p : Pos} {a b c : Expr} {ta tb : AE} {va vb vc : AV}
/-! ### constants of the module -/
def GlC (K : PySem.W.Frag) (mg : Str → Option Value) (x : Str) (d : D) : Prop := ∃ u v, mg x = some u ∧ RelV v u ∧ ∀ G, Rp K G d v
theorem e_glob {x : Str} {d : D} (h : GlC X.K X.mg x d) (hg : Gl X x) (hd : (x == ("__debug__" : Str)) = false := by decide) : EX X W (.Name x pos) (aC d) := by
  obtain ⟨u, v, hm, r, rp⟩ := h
  exact e_C (pe_glob hg hm r hd) rp
theorem v_glob {x : Str} {d : D} (h : GlC X.K X.mg x d) (hg : Gl X x) (hd : (x == ("__debug__" : Str)) = false := by decide) : VW X (.Name x pos) (vC d) := by
  obtain ⟨u, v, hm, r, rp⟩ := h
  exact v_C (pe_glob hg hm r hd) rp
/-! ### chains of two comparisons -/
def vChain (β β' : D → D → (D → Prop) → Prop) (va vb vc : AV) : AV := fun ρ Q => va ρ fun x => vb ρ fun y => β x y fun z => ∃ k, z = .bl k ∧ (if k = true then vc ρ fun w => β' y w Q else Q (.bl false))
theorem v_chain {op op' : CmpOp} {r r' : R2} {β β' : D → D → (D → Prop) → Prop} (ho : OpR X (compareOp op) r) (hb : B2 X.K r β) (ho' : OpR X (compareOp op') r') (hb' : B2 X.K r' β') (ea : VW X a va) (eb : VW X b vb) (ec : VW X c vc)
    (hm : lastMarks [op, op'] [b, c] = false := by with_unfolding_all rfl) : VW X (.Compare a [op, op'] [b, c] pos) (vChain β β' va vb vc) := by
  obtain ⟨Ta, pa, ra⟩ := ea.ex
  obtain ⟨Tb, pb, rb⟩ := eb.ex
  obtain ⟨Tc, pc, rc⟩ := ec.ex
  refine ⟨_, pe_chain ho ho' pa pb pc hm, fun P G F ρ σ H Q Q' R h hq => ?_⟩
  refine ra P G F ρ σ H _ _ R h fun G1 H1 v d R1 s1 k1 rv h1 => ?_
  refine rb P G1 F ρ σ H1 _ _ R1 h1 fun G2 H2 u e R2 s2 k2 ru h2 => ?_
  refine hb H2 H2 d e v u _ _ (Same.refl _) (rv.mono k2) ru h2 fun J' H' z w g rz ⟨k, ez, q⟩ => ?_
  subst ez
  refine ⟨k, rp_bl.mp rz, ?_⟩
  have R3 := R2.growV g
  cases k with
  | false =>
    rw [if_neg Bool.false_ne_true] at q
    exact iteF (hq G2 H' _ _ R3 (s1.trans s2) ((k1.trans k2).trans g.h) (rp_b _) q)
  | true =>
    rw [if_pos rfl] at q
    refine iteT (rc P G2 F ρ σ H' _ _ R3 q fun G4 H4 w' f R4 s4 k4 rw' h4 => ?_)
    exact hb' H4 H4 e f u w' _ Q' (Same.refl _) (ru.mono (g.h.trans k4)) rw' h4 fun J5 H5 z w g5 rz q => hq G4 H5 w z (R4.growV g5) ((s1.trans s2).trans s4) (((k1.trans k2).trans (g.h.trans k4)).trans g5.h) (rz.mono g5.jh) q
/-! ### an item of an own list -/
def aOwnIx (i : Nat) (tk : AE) : AE := fun ρ Q Z => isOwn ρ i ∧ tk ρ (fun k ρ1 => match k, ρ1[i]? with
  | .int k, some (.own _ xs) => ∃ d, atI xs k = some d ∧ Q d ρ1
  | _, _ => False) Z
theorem e_ownIx (i : Nat) {x : Str} {tk : AE} (hk : EX X W b tk) (hs : PlainIx b) (hi : X.N[i]? = some x := by rfl) (hv : Vis X.env.scope x := by first | exact Or.inl rfl | exact Or.inr (Or.inl rfl) | exact Or.inr (Or.inr rfl)) (hd1 : (x == ("__debug__" : Str)) = false := by decide)
    (hcd : (x == ("__classdict__" : Str)) = false := by decide) : EX X W (.Subscript (.Name x p) b pos) (aOwnIx i tk) := by
  obtain ⟨T, pk, r⟩ := hk.ex
  refine ⟨_, pe_ix ix_list (pe_var hi hv hd1 hcd) pk hs, fun P G F ρ σ H Q Z Q' R ⟨h0, h⟩ hz hq => ?_⟩
  obtain ⟨b0, xs0, e0⟩ := h0.ex
  obtain ⟨a, vs, g1, g2, _⟩ := R.own i b0 xs0 e0
  refine ⟨_, g1, r P G F ρ σ H _ Z _ R h hz fun G1 ρ1 H1 v d R1 s1 rv q => ?_⟩
  split at q
  · rename_i k c xs e1
    obtain ⟨d, hd, q⟩ := q
    obtain ⟨a', us, k1, k2, k3, k4, k5⟩ := R1.own i c xs e1
    rw [g1] at k1
    cases k1
    obtain ⟨w, w1, w2⟩ := atI_rpl k5 hd
    exact ⟨a, us, k, w, rfl, rp_int.mp rv, SqL.of k2, w1, hq G1 ρ1 H1 w d R1 s1 w2 q⟩
  · exact q.elim
/-! ### own lists made -/
def oCat (ta tb : AE) : AO := fun ρ Q Z => ta ρ (fun x ρ1 => tb ρ1 (fun y ρ2 => match x, y with
  | .lst xs, .lst ys => xs.length + ys.length ≤ sizeLine ∧ Q (xs ++ ys) ρ2
  | _, _ => False) Z) Z
/-- [..] * n, the list made here -/
def oRep (ta : AO) (tb : AE) : AO := fun ρ Q Z => ta ρ (fun xs ρ1 => tb ρ1 (fun y ρ2 => match y with
  | .int k => -(2 ^ 63) ≤ k ∧ k < 2 ^ 63 ∧ xs.length * k.toNat ≤ sizeLine ∧ Q (List.replicate k.toNat xs).flatten ρ2
  | _ => False) Z) Z
theorem RpL.rep {K : PySem.W.Frag} {G : Hp} {xs : List D} {vs : List V} (h : RpL K G xs vs) : ∀ n : Nat, RpL K G (List.replicate n xs).flatten (List.replicate n vs).flatten
  | 0 => RpL.nil
  | n + 1 => by
    rw [List.replicate_succ, List.replicate_succ, List.flatten_cons, List.flatten_cons]
    exact h.append (RpL.rep h n)
theorem o_rep {oa : AO} (ea : EO X W a oa) (eb : EX X W b tb) : EO X W (.BinOp a .Mult b pos) (oRep oa tb) := by
  obtain ⟨Ta, pa, ra⟩ := ea.ex
  obtain ⟨Tb, pb, rb⟩ := eb.ex
  refine ⟨_, pe_op op_rep pa pb, fun P G F ρ σ H Q Z Q' R h hz hq => ?_⟩
  refine ra P G F ρ σ H _ Z _ R h hz fun G1 ρ1 H1 l vs xs R1 s1 h2 h3 h4 hn hr h1 => ?_
  have sG : Same G1 (upd G1 l (.lst vs)) := same_new h3
  have R1' := R1.keep h2 h3 h4 hn
  refine rb P _ F ρ1 σ H1 _ Z _ R1' h1 (hz.mono (s1.trans sG)) fun G2 ρ2 H2 u e R2 s2 ru q => ?_
  cases e <;> first | exact q.elim | skip
  have hl : H2 l = some (.lst vs) := R2.sg _ _ (s2 _ _ upd_same)
  have hr2 := hr.mono (sG.trans s2)
  exact ⟨l, _, vs, rfl, rp_int.mp ru, hl, q.1, q.2.1, by rw [← hr2.length]; exact q.2.2.1, fun p hp => hq G2 ρ2 _ p _ _ (R2.alloc hp) ((s1.trans sG).trans s2) upd_same (R2.sg.free hp) (R2.sf.free hp) (not_own R2 hp) (hr2.rep _) q.2.2.2⟩
/-- list(x) -/
def oList (t : AA) : AO := fun ρ Q Z => t ρ (fun ds ρ1 => match ds with
  | [.lst xs] => Q xs ρ1
  | [.tup xs] => Q xs ρ1
  | _ => False) Z
/-! ### a list, a tuple or a text walked -/
theorem pi_any {tg : Expr} {T : TE} (h : PE X a T) : PI X tg a (fun σ H R => T σ H fun x H1 => (∃ l xs, x = .ref l ∧ SqL X.K H1 l xs ∧ R (Itl X.K l) H1) ∨ (∃ l xs, x = .ref l ∧ SqT X.K H1 l xs ∧ R (Itt X.K l) H1) ∨ ∃ z, x = .str z ∧ R (Its z) H1) := by
  refine ⟨fun pins s σ H R I h' => thn (h.run pins s σ H _ I h') fun v s1 ⟨x, H1, I1, r1, q1⟩ => ?_⟩
  rcases q1 with ⟨l, xs, e, hq, q⟩ | ⟨l, xs, e, hq, q⟩ | ⟨z, e, q⟩
  · subst e
    cases r1
    obtain ⟨its, rv, pl, _⟩ := I1.list hq
    exact wpAny_pyIter_list pl.isList (pi_one (tk := s1.toks) I1 _ (turn_list l _) ⟨_, Heap.get?_push_size _ rfl, rfl, rfl⟩ q)
  · subst e
    cases r1
    obtain ⟨its, rv, pl, _⟩ := I1.tuple hq
    exact wpAny_pyIter_tuple (show s1.heap.IsTuple l its.toArray from pl) (pi_one (tk := s1.toks) I1 _ (turn_tuple l _) ⟨_, Heap.get?_push_size _ rfl, rfl, rfl⟩ q)
  · subst e
    obtain ⟨t, rfl⟩ := r1
    cases hz : z.cps.all (· < 128)
    · exact wpAny_pyIter_wide hz (pi_one (tk := s1.toks) I1 _ (turn_str _ z t "str_iterator" (.inr rfl)) ⟨_, Heap.get?_push_size _ rfl, rfl, rfl⟩ q)
    · exact wpAny_pyIter_ascii hz (pi_one (tk := s1.toks) I1 _ (turn_str _ z t "str_ascii_iterator" (.inl rfl)) ⟨_, Heap.get?_push_size _ rfl, rfl, rfl⟩ q)
def iAny (te : AE) : AI := fun ρ Q Z => te ρ (fun d ρ1 => match d with
  | .lst xs => Q xs ρ1
  | .tup xs => Q xs ρ1
  | .str x => Q (signsD x) ρ1
  | _ => False) Z
theorem i_any {tg : Expr} (he : EX X W a ta) : IX X W tg a (iAny ta) := by
  obtain ⟨T, p, r⟩ := he.ex
  refine ⟨_, pi_any p, fun P G F ρ σ H Q Z R' R h hz hq => ?_⟩
  refine r P G F ρ σ H _ Z _ R h hz fun G1 ρ1 H1 v d R1 s1 rv q => ?_
  cases d <;> first | exact q.elim | skip
  · exact .inr (.inr ⟨_, rp_str.mp rv, hq G1 ρ1 H1 _ _ R1 s1 walk_str q⟩)
  · obtain ⟨l, vs, rfl, h2, h3⟩ := rp_lst.mp rv
    exact .inl ⟨l, vs, rfl, R1.sg.seq h2, hq G1 ρ1 H1 _ _ R1 s1 (walk_list h2 h3) q⟩
  · obtain ⟨l, vs, rfl, h2, h3⟩ := rp_tup.mp rv
    exact .inr (.inl ⟨l, vs, rfl, Same.seqT R1.sg h2, hq G1 ρ1 H1 _ _ R1 s1 (walk_tup h2 h3) q⟩)
/-! ### a, b = x, y -/
def sPar (i j : Nat) (ta tb : AE) : AS := fun D ρ => ta ρ (fun x ρ1 => tb ρ1 (fun y ρ2 => okSet ρ2 i ∧ okSet (ρ2.set i (.dat x)) j ∧ D.nx ((ρ2.set i (.dat x)).set j (.dat y))) D.xx) D.xx
/-! ### x op= e -/
def bAddI : D → D → (D → Prop) → Prop := bI (fun _ _ => True) fun i j => .int (i + j)
theorem b2_addI {K : PySem.W.Frag} : B2 K (rI0 fun i j => .int (i + j)) bAddI := b2_int0 fun _ _ _ => rp_i _
def bMulS : D → D → (D → Prop) → Prop := bI CMul fun i j => .int (i * j)
theorem b2_mulS {K : PySem.W.Frag} : B2 K (rI CMul fun i j => .int (i * j)) bMulS := b2_int fun _ _ _ => rp_i _
/-! ### x.pop() -/
end
/-! ### names for what the rules say -/
def tCmpE (β : D → D → (D → Prop) → Prop) (ta tb : AE) : AT := fun ρ Q Z => aOp β ta tb ρ (fun d ρ1 => ∃ k, d = .bl k ∧ Q k ρ1) Z
def tCmpV (β : D → D → (D → Prop) → Prop) (va vb : AV) : AT := fun ρ Q Z => vOp β va vb ρ fun d => ∃ k, d = .bl k ∧ Q k ρ
def tChainV (β β' : D → D → (D → Prop) → Prop) (va vb vc : AV) : AT := fun ρ Q Z => vChain β β' va vb vc ρ fun d => ∃ k, d = .bl k ∧ Q k ρ
def sAppO (i : Nat) (te : AE) : AS := fun D ρ => isOwn ρ i ∧ sApp i te D ρ
def sPutO (i : Nat) (te tk : AE) : AS := fun D ρ => te ρ (fun d ρ1 => isOwn ρ1 i ∧ sPut i (fun _ Q _ => Q d ρ1) tk D ρ1) D.xx
/-- behind a body of n parameters -/
def endsA (n : Nat) (Q : Sv → List Sv → Prop) (Z : Exc → List Sv → Prop) : AEnds := { nx := fun ρ' => Q (.dat .non) (ρ'.take n), rt := fun r ρ' => Q r (ρ'.take n), xx := fun x ρ' => Z x (ρ'.take n) }
/-- the body b, of n parameters and m slots, keeps the contract c -/
def Sat (n m : Nat) (b : AS) (c : Ctr) : Prop := ∀ ρ Q Z, ρ.length = n → c ρ Q Z → b (endsA n Q Z) (startA m ρ)
section
variable {P : Program} {w : World} {K : PySem.W.Frag} {mg : Str → Option Value} {base : Heap} {x qual : Str} {params : Arguments} {body : List Stmt} {scope : Scope} {dvs : List V} {kws : List (Str × V)} {f : Addr} {fd : FuncData}
theorem ok_sat {N ps : List Str} {k : Nat} {c : Ctr} {t : AS} (F : FunD K x qual params body scope dvs kws f fd) (S : FnScope N ps scope) (hsys : ∃ o es ep, base.get? sysModules = some o ∧ o.data = .dict es ep)
    (hb : ∀ (cdv : Value) (A : Around) (ou : List Env) (s : Shared) (H : Hp) (E : XK), Run k (cxOf (L2N.CX P w) P w K mg base N qual scope f cdv A ou s H E) → PassesOwn (model P w) (cxOf (L2N.CX P w) P w K mg base N qual scope f cdv A ou s H E).A (cxOf (L2N.CX P w) P w K mg base N qual scope f cdv A ou s H E).env (cxOf (L2N.CX P w) P w K mg base N qual scope f cdv A ou s H E).xe →
      L2N.Takes (cxOf (L2N.CX P w) P w K mg base N qual scope f cdv A ou s H E) (fun cls d _ H => E cls d H) → SXs (cxOf (L2N.CX P w) P w K mg base N qual scope f cdv A ou s H E) (fun cls d _ H => E cls d H) body t)
    (hc : Sat ps.length N.length t c) : FnG P w K mg base (k + 1) f fd ps (spV K ps.length c) := ok_fn F S hsys hb fun ρ Q Z hl h => hc ρ Q Z hl h
/-- the def as its callers know it, all arguments written -/
theorem def_of {ps : List Str} {k : Nat} {c : Ctr} (G : FnG P w K mg base k f fd ps (spV K ps.length c)) (F : FunD K x qual params body scope [] kws f fd) (hm : mg x = some (.ref f))
    (h : ∀ (kV doc pm : Value) (an : Option Addr) (cdv ct : Value) (us : List Value), us.length = ps.length → bindArgs (PySem.W.fnOf x qual params body scope .none kV doc pm an cdv ct) ⟨us, []⟩ = pure (ps.zip us)) : DefC P w K mg base k x ps [] c :=
  ⟨f, fd, [], [], G, hm, F.kp, F.bindsN h, .nil, fun _ => RpL.nil⟩
/-- the same where the defaults behind the first n parameters fill up -/
theorem def_ofD {ps : List Str} {k : Nat} {c : Ctr} {dds : List D} (n : Nat) (G : FnG P w K mg base k f fd ps (spV K ps.length c)) (F : FunD K x qual params body scope dvs kws f fd) (hm : mg x = some (.ref f)) (hd : dvs ≠ []) (hn : n + (dvs.length - 0) = ps.length)
    (h : ∀ (T : Addr) (kV doc pm : Value) (an : Option Addr) (cdv ct : Value) (us its : List Value), us.length = n → its.length = dvs.length →
      ∃ k, bindArgs (PySem.W.fnOf x qual params body scope (.ref T) kV doc pm an cdv ct) ⟨us, []⟩ = seqItems? (.ref T) >>= k ∧ k (some its.toArray) = pure (ps.zip (us ++ its.drop 0))) (hdd : ∀ G, RpL K G dds dvs) : DefC P w K mg base k x ps dds c := by
  obtain ⟨ds, r, b⟩ := F.binds1 n 0 hd hn h
  exact ⟨f, fd, ds, dvs, G, hm, F.kp, b, r, hdd⟩
/-- .. where all of its parameters are written -/
theorem def_ofA {ps : List Str} {k : Nat} {c : Ctr} (n : Nat) (G : FnG P w K mg base k f fd ps (spV K ps.length c)) (F : FunD K x qual params body scope dvs kws f fd) (hm : mg x = some (.ref f)) (hd : dvs ≠ []) (hn : n + (dvs.length - dvs.length) = ps.length)
    (h : ∀ (T : Addr) (kV doc pm : Value) (an : Option Addr) (cdv ct : Value) (us its : List Value), us.length = n → its.length = dvs.length →
      ∃ k, bindArgs (PySem.W.fnOf x qual params body scope (.ref T) kV doc pm an cdv ct) ⟨us, []⟩ = seqItems? (.ref T) >>= k ∧ k (some its.toArray) = pure (ps.zip (us ++ its.drop dvs.length))) : DefC P w K mg base k x ps [] c := by
  obtain ⟨ds, r, b⟩ := F.binds1 n dvs.length hd hn h
  rw [List.drop_length] at r
  cases r
  exact ⟨f, fd, [], [], G, hm, F.kp, b, .nil, fun _ => RpL.nil⟩
end
end VS
/-! VSo: what the abstract bodies compute, as rules of simp. -/
namespace VS
open PySem PySem.Spec PyProof.Rows L2
theorem keep {α : Sort _} {a b : α} (h : a = b) : a = b := h
/-! what follows a step, by name: nothing happens in it before it is reached -/
section
variable (ρ ρ0 : List Sv) (Q : KD) (QV : D → Prop) (Z : KX) (QB : Bool → List Sv → Prop) (QL : List D → List Sv → Prop) (QW : List D → Prop) (QA : List Ar → List Sv → Prop) (QP : Option Int → List Sv → Prop) (b b' : D → D → (D → Prop) → Prop) (b1 : D → (D → Prop) → Prop) (β : List D → (D → Prop) → Prop) (ta tb : AE) (va vb : AV) (t u : AT) (oa ob : AO) (aa : AA) (av : VA) (E : AEnds)
def kAt : D → Prop := fun z => Q z ρ
def kOp1 : KD := fun x ρ1 => tb ρ1 (fun y ρ2 => b x y (kAt ρ2 Q)) Z
def kOp2 (x : D) : KD := fun y ρ2 => b x y (kAt ρ2 Q)
def kvOp1 : D → Prop := fun x => vb ρ fun y => b x y QV
def kvOp2 (x : D) : D → Prop := fun y => b x y QV
def kUn : KD := fun x ρ1 => b1 x (kAt ρ1 Q)
def kvUn : D → Prop := fun x => b1 x QV
def kFlat : D → Prop := fun d => d.flat = true ∧ Q d ρ
def kTr : KD := fun d ρ1 => d.truOk ∧ QB d.tru ρ1
def kvTr : D → Prop := fun d => d.truOk ∧ QB d.tru ρ
def kNot : Bool → List Sv → Prop := fun c ρ1 => QB (!c) ρ1
def kAnd : Bool → List Sv → Prop := fun c ρ1 => if c = true then u ρ1 QB Z else QB false ρ1
def kOr : Bool → List Sv → Prop := fun c ρ1 => if c = true then QB true ρ1 else u ρ1 QB Z
def kAndV : KD := fun x ρ1 => x.truOk ∧ if x.tru = true then tb ρ1 Q Z else Q x ρ1
def kOrV : KD := fun x ρ1 => x.truOk ∧ if x.tru = true then Q x ρ1 else tb ρ1 Q Z
def kvAndV : D → Prop := fun x => x.truOk ∧ if x.tru = true then vb ρ QV else QV x
def kvOrV : D → Prop := fun x => x.truOk ∧ if x.tru = true then QV x else vb ρ QV
def kIfE : Bool → List Sv → Prop := fun c ρ1 => if c = true then ta ρ1 Q Z else tb ρ1 Q Z
def kFrz : List D → List Sv → Prop := fun xs ρ1 => Q (.lst xs) ρ1
def kCons2 (d : D) : List D → List Sv → Prop := fun ds ρ2 => QL (d :: ds) ρ2
def kCons1 : KD := fun d ρ1 => aa ρ1 (kCons2 QL d) Z
def kvCons2 (d : D) : List D → Prop := fun ds => QW (d :: ds)
def kvCons1 : D → Prop := fun d => av ρ (kvCons2 QW d)
def kTup : List D → List Sv → Prop := fun ds ρ1 => ds.length ≤ sizeLine ∧ Q (.tup ds) ρ1
def kvTup : List D → Prop := fun ds => ds.length ≤ sizeLine ∧ QV (.tup ds)
def kLst : List D → List Sv → Prop := fun ds ρ1 => ds.length ≤ sizeLine ∧ QL ds ρ1
def kvLst : List D → Prop := fun ds => ds.length ≤ sizeLine ∧ QV (.lst ds)
def kCall : List D → List Sv → Prop := fun ds ρ1 => β ds (kAt ρ1 Q)
def kvCall : List D → Prop := fun ds => β ds QV
def kIsi (T : String) : D → Prop := fun d => d.noObj ∧ QV (.bl (isTy T d))
def kIsi2 (T U : String) : D → Prop := fun d => d.noObj ∧ QV (.bl (isTy T d || isTy U d))
def kPart : KD := fun d ρ1 => ∃ i, d = .int i ∧ QP (some i) ρ1
def kSl3 (d : D) (l : Option Int) : Option Int → List Sv → Prop := fun u ρ3 => match d with
  | .str x => x.length ≤ sizeLine ∧ Q (.str (cutS x l u)) ρ3
  | .lst xs => Q (.lst (cutD xs l u)) ρ3
  | .tup xs => ¬ (HT.sIx xs.length 0 l = 0 ∧ HT.sIx xs.length xs.length u = xs.length) ∧ Q (.tup (cutD xs l u)) ρ3
  | _ => False
def kSl2 (th : AP) (d : D) : Option Int → List Sv → Prop := fun l ρ2 => th ρ2 (kSl3 Q d l) Z
def kSl1 (tl th : AP) : KD := fun d ρ1 => tl ρ1 (kSl2 Q Z th d) Z
def kSlO3 (d : D) (l : Option Int) : Option Int → List Sv → Prop := fun u ρ3 => ∃ xs, d = .lst xs ∧ QL (cutD xs l u) ρ3
def kSlO2 (th : AP) (d : D) : Option Int → List Sv → Prop := fun l ρ2 => th ρ2 (kSlO3 QL d l) Z
def kSlO1 (tl th : AP) : KD := fun d ρ1 => tl ρ1 (kSlO2 Z QL th d) Z
def kOwnIx (i : Nat) : KD := fun k ρ1 => match k, ρ1[i]? with
  | .int k, some (.own _ xs) => ∃ d, atI xs k = some d ∧ Q d ρ1
  | _, _ => False
def kCat2 (x : D) : KD := fun y ρ2 => match x, y with
  | .lst xs, .lst ys => xs.length + ys.length ≤ sizeLine ∧ QL (xs ++ ys) ρ2
  | _, _ => False
def kCat1 : KD := fun x ρ1 => tb ρ1 (kCat2 QL x) Z
def kRep2 (xs : List D) : KD := fun y ρ2 => match y with
  | .int k => -(2 ^ 63) ≤ k ∧ k < 2 ^ 63 ∧ xs.length * k.toNat ≤ sizeLine ∧ QL (List.replicate k.toNat xs).flatten ρ2
  | _ => False
def kRep1 : List D → List Sv → Prop := fun xs ρ1 => tb ρ1 (kRep2 QL xs) Z
def kList : List D → List Sv → Prop := fun ds ρ1 => match ds with
  | [.lst xs] => QL xs ρ1
  | [.tup xs] => QL xs ρ1
  | _ => False
def kAny : KD := fun d ρ1 => match d with
  | .lst xs => QL xs ρ1
  | .tup xs => QL xs ρ1
  | .str x => QL (signsD x) ρ1
  | _ => False
def kRange1 : List D → List Sv → Prop := fun ds ρ1 => match ds with
  | [.int n] => -(2 ^ 62) ≤ n ∧ n < 2 ^ 62 ∧ QL (rangeD 0 n.toNat) ρ1
  | _ => False
def kRange2 : List D → List Sv → Prop := fun ds ρ1 => match ds with
  | [.int m, .int n] => (-(2 ^ 62) ≤ m ∧ m < 2 ^ 62 ∧ -(2 ^ 62) ≤ n ∧ n < 2 ^ 62) ∧ QL (rangeD m (n - m).toNat) ρ1
  | _ => False
def kEnum : List D → List Sv → Prop := fun ds ρ1 => match ds with
  | [.lst xs] => QL (enumD xs) ρ1
  | _ => False
def kZip : List D → List Sv → Prop := fun ds ρ1 => match ds with
  | [.lst xs, .lst ys] => QL (zipD xs ys) ρ1
  | _ => False
def kCh4 (y : D) : D → Prop := fun w => b' y w QV
def kCh3 (vc : AV) (y : D) : D → Prop := fun z => ∃ k, z = .bl k ∧ (if k = true then vc ρ (kCh4 QV b' y) else QV (.bl false))
def kCh2 (vc : AV) (x : D) : D → Prop := fun y => b x y (kCh3 ρ QV b' vc y)
def kCh1 (vc : AV) : D → Prop := fun x => vb ρ (kCh2 ρ QV b b' vc x)
def kCmp : KD := fun d ρ1 => ∃ k, d = .bl k ∧ QB k ρ1
def kvCmp : D → Prop := fun d => ∃ k, d = .bl k ∧ QB k ρ
def krDat2 (d : D) : List Ar → List Sv → Prop := fun as ρ2 => QA (.dat d :: as) ρ2
def krDat1 (ua : AAr) : KD := fun d ρ1 => ua ρ1 (krDat2 QA d) Z
def krIo (i : Nat) : List Ar → List Sv → Prop := fun as ρ2 => QA (.io i :: as) ρ2
def kDef2 (as : List Ar) : Sv → List Sv → Prop := fun r ρp => match r with
  | .dat d => Q d (put ρ as ρp)
  | .own _ xs => Q (.lst xs) (put ρ as ρp)
  | _ => False
def kDefX (as : List Ar) : Exc → List Sv → Prop := fun x ρp => Z x (put ρ as ρp)
def kDef1 (c : Ctr) (dds : List D) : List Ar → List Sv → Prop := fun as ρ1 => lendOk ρ1 as ∧ c ((as.map (res ρ1)) ++ dds.map .dat) (kDef2 ρ1 Q as) (kDefX ρ1 Z as)
def kDefO2 (as : List Ar) : Sv → List Sv → Prop := fun r ρp => match r with
  | .own _ xs => QL xs (put ρ as ρp)
  | _ => False
def kDefO1 (c : Ctr) (dds : List D) : List Ar → List Sv → Prop := fun as ρ1 => lendOk ρ1 as ∧ c ((as.map (res ρ1)) ++ dds.map .dat) (kDefO2 ρ1 QL as) (kDefX ρ1 Z as)
def kvDef2 : Sv → List Sv → Prop := fun r _ => match r with
  | .dat d => QV d
  | .own _ xs => QV (.lst xs)
  | _ => False
def kNoX : Exc → List Sv → Prop := fun _ _ => False
def kvDef1 (c : Ctr) (dds : List D) : List D → Prop := fun as => c (as.map .dat ++ dds.map .dat) (kvDef2 QV) kNoX
def kLc (g : AG) (tt : AT) (te : AE) (vs : List Nat) : List D → List Sv → Prop := fun ds ρ1 => (∀ i ∈ vs, noOwn ρ1 i) ∧ aComp g tt te vs QL ds [] ρ1
def kgCons (gu : AGs) (r : List D) (R : List Sv → Prop) : List Sv → Prop := fun ρ1 => gu r ρ1 R
def kAsg (g : AG) : KD := fun d ρ1 => g d ρ1 E.nx
def kSetO (i : Nat) : List D → List Sv → Prop := fun xs ρ1 => okSet ρ1 i ∧ E.nx (ρ1.set i (.own false xs))
def kDrop : KD := fun _ ρ1 => E.nx ρ1
def kRet : KD := fun d ρ1 => E.rt (.dat d) ρ1
def kRetO : List D → List Sv → Prop := fun xs ρ1 => E.rt (.own false xs) ρ1
def kIf (t u : AS) : Bool → List Sv → Prop := fun b ρ1 => if b = true then t E ρ1 else u E ρ1
def kFor (g : AG) (tb : AS) : List D → List Sv → Prop := fun ds ρ1 => aLoop g tb E ds ρ1
def kPar2 (i j : Nat) (x : D) : KD := fun y ρ2 => okSet ρ2 i ∧ okSet (ρ2.set i (.dat x)) j ∧ E.nx ((ρ2.set i (.dat x)).set j (.dat y))
def kPar1 (i j : Nat) : KD := fun x ρ1 => tb ρ1 (kPar2 E i j x) E.xx
def kApp (i : Nat) : KD := fun d ρ1 => match ρ1[i]? with
  | some (.own b xs) => xs.length < sizeLine ∧ E.nx (ρ1.set i (.own b (xs ++ [d])))
  | _ => False
def kPut2 (i : Nat) (d : D) : KD := fun k ρ2 => match k, ρ2[i]? with
  | .int k, some (.own b xs) => ∃ j, ixN xs.length k = some j ∧ E.nx (ρ2.set i (.own b (xs.set j d)))
  | _, _ => False
def kPut1 (i : Nat) (tk : AE) : KD := fun d ρ1 => isOwn ρ1 i ∧ tk ρ1 (kPut2 E i d) E.xx
def kAug2 (i : Nat) : List Sv → D → Prop := fun ρ1 z => okSet ρ1 i ∧ E.nx (ρ1.set i (.dat z))
def kAug1 (i : Nat) (d : D) : KD := fun e ρ1 => b d e (kAug2 E i ρ1)
end
section
variable {ρ ρ1 : List Sv} {Q : KD} {QV : D → Prop} {Z : KX} {QB : Bool → List Sv → Prop} {QL : List D → List Sv → Prop} {QW : List D → Prop} {QA : List Ar → List Sv → Prop} {QP : Option Int → List Sv → Prop} {b b' : D → D → (D → Prop) → Prop} {b1 : D → (D → Prop) → Prop} {β : List D → (D → Prop) → Prop} {ta tb te : AE} {va vb vc : AV} {t u : AT} {oa ob : AO} {aa : AA} {av : VA} {E : AEnds} {x y d : D} {ds xs : List D} {c : Bool} {i j : Nat}
@[simp ↓] theorem q_kAt : kAt ρ Q x = Q x ρ := keep rfl
@[simp ↓] theorem q_aVar : aVar i ρ Q Z = (match ρ[i]? with
  | some (.dat d) => Q d ρ
  | some (.own false xs) => Q (.lst xs) (ρ.set i (.dat (.lst xs)))
  | some (.tre (.frz _ d)) => Q d ρ
  | some (.tre t) => t.shut ∧ Q t.strip (ρ.set i (.dat t.strip))
  | _ => False) := keep rfl
@[simp ↓] theorem q_aC : aC d ρ Q Z = Q d ρ := keep rfl
@[simp ↓] theorem q_vVar : vVar i ρ QV = (match ρ[i]? with
  | some (.dat d) => QV d
  | some (.own _ xs) => QV (.lst xs)
  | some (.tre t) => t.shut ∧ QV t.strip
  | _ => False) := keep rfl
@[simp ↓] theorem q_vC : vC d ρ QV = QV d := keep rfl
@[simp ↓] theorem q_aOp : aOp b ta tb ρ Q Z = ta ρ (kOp1 Q Z b tb) Z := keep rfl
@[simp ↓] theorem q_kOp1 : kOp1 Q Z b tb x ρ1 = tb ρ1 (kOp2 Q b x) Z := keep rfl
@[simp ↓] theorem q_kOp2 : kOp2 Q b x y ρ1 = b x y (kAt ρ1 Q) := keep rfl
@[simp ↓] theorem q_vOp : vOp b va vb ρ QV = va ρ (kvOp1 ρ QV b vb) := keep rfl
@[simp ↓] theorem q_kvOp1 : kvOp1 ρ QV b vb x = vb ρ (kvOp2 QV b x) := keep rfl
@[simp ↓] theorem q_kvOp2 : kvOp2 QV b x y = b x y QV := keep rfl
@[simp ↓] theorem q_aUn : aUn b1 ta ρ Q Z = ta ρ (kUn Q b1) Z := keep rfl
@[simp ↓] theorem q_kUn : kUn Q b1 x ρ1 = b1 x (kAt ρ1 Q) := keep rfl
@[simp ↓] theorem q_vUn : vUn b1 va ρ QV = va ρ (kvUn QV b1) := keep rfl
@[simp ↓] theorem q_kvUn : kvUn QV b1 x = b1 x QV := keep rfl
@[simp ↓] theorem q_aFlat : aFlat va ρ Q Z = va ρ (kFlat ρ Q) := keep rfl
@[simp ↓] theorem q_kFlat : kFlat ρ Q d = (d.flat = true ∧ Q d ρ) := keep rfl
@[simp ↓] theorem q_aTr : aTr ta ρ QB Z = ta ρ (kTr QB) Z := keep rfl
@[simp ↓] theorem q_kTr : kTr QB d ρ1 = (d.truOk ∧ QB d.tru ρ1) := keep rfl
@[simp ↓] theorem q_vTr : vTr va ρ QB Z = va ρ (kvTr ρ QB) := keep rfl
@[simp ↓] theorem q_kvTr : kvTr ρ QB d = (d.truOk ∧ QB d.tru ρ) := keep rfl
@[simp ↓] theorem q_aNot : aNot t ρ QB Z = t ρ (kNot QB) Z := keep rfl
@[simp ↓] theorem q_kNot : kNot QB c ρ1 = QB (!c) ρ1 := keep rfl
@[simp ↓] theorem q_aAnd : aAnd t u ρ QB Z = t ρ (kAnd Z QB u) Z := keep rfl
@[simp ↓] theorem q_kAnd : kAnd Z QB u c ρ1 = if c = true then u ρ1 QB Z else QB false ρ1 := keep rfl
@[simp ↓] theorem q_aOr : aOr t u ρ QB Z = t ρ (kOr Z QB u) Z := keep rfl
@[simp ↓] theorem q_kOr : kOr Z QB u c ρ1 = if c = true then QB true ρ1 else u ρ1 QB Z := keep rfl
@[simp ↓] theorem q_aAndV : aAndV ta tb ρ Q Z = ta ρ (kAndV Q Z tb) Z := keep rfl
@[simp ↓] theorem q_kAndV : kAndV Q Z tb x ρ1 = (x.truOk ∧ if x.tru = true then tb ρ1 Q Z else Q x ρ1) := keep rfl
@[simp ↓] theorem q_aOrV : aOrV ta tb ρ Q Z = ta ρ (kOrV Q Z tb) Z := keep rfl
@[simp ↓] theorem q_kOrV : kOrV Q Z tb x ρ1 = (x.truOk ∧ if x.tru = true then Q x ρ1 else tb ρ1 Q Z) := keep rfl
@[simp ↓] theorem q_vAndV : vAndV va vb ρ QV = va ρ (kvAndV ρ QV vb) := keep rfl
@[simp ↓] theorem q_kvAndV : kvAndV ρ QV vb x = (x.truOk ∧ if x.tru = true then vb ρ QV else QV x) := keep rfl
@[simp ↓] theorem q_vOrV : vOrV va vb ρ QV = va ρ (kvOrV ρ QV vb) := keep rfl
@[simp ↓] theorem q_kvOrV : kvOrV ρ QV vb x = (x.truOk ∧ if x.tru = true then QV x else vb ρ QV) := keep rfl
@[simp ↓] theorem q_bNot : bNot x QV = (x.truOk ∧ QV (.bl (!x.tru))) := keep rfl
@[simp ↓] theorem q_aIfE : aIfE t ta tb ρ Q Z = t ρ (kIfE Q Z ta tb) Z := keep rfl
@[simp ↓] theorem q_kIfE : kIfE Q Z ta tb c ρ1 = if c = true then ta ρ1 Q Z else tb ρ1 Q Z := keep rfl
@[simp ↓] theorem q_aFrz : aFrz oa ρ Q Z = oa ρ (kFrz Q) Z := keep rfl
@[simp ↓] theorem q_kFrz : kFrz Q xs ρ1 = Q (.lst xs) ρ1 := keep rfl
@[simp ↓] theorem q_aNil : aNil ρ QL Z = QL [] ρ := keep rfl
@[simp ↓] theorem q_vNil : vNil ρ QW = QW [] := keep rfl
@[simp ↓] theorem q_aCons : aCons ta aa ρ QL Z = ta ρ (kCons1 Z QL aa) Z := keep rfl
@[simp ↓] theorem q_kCons1 : kCons1 Z QL aa d ρ1 = aa ρ1 (kCons2 QL d) Z := keep rfl
@[simp ↓] theorem q_kCons2 : kCons2 QL d ds ρ1 = QL (d :: ds) ρ1 := keep rfl
@[simp ↓] theorem q_vCons : vCons va av ρ QW = va ρ (kvCons1 ρ QW av) := keep rfl
@[simp ↓] theorem q_kvCons1 : kvCons1 ρ QW av d = av ρ (kvCons2 QW d) := keep rfl
@[simp ↓] theorem q_kvCons2 : kvCons2 QW d ds = QW (d :: ds) := keep rfl
@[simp ↓] theorem q_aTup : aTup aa ρ Q Z = aa ρ (kTup Q) Z := keep rfl
@[simp ↓] theorem q_kTup : kTup Q ds ρ1 = (ds.length ≤ sizeLine ∧ Q (.tup ds) ρ1) := keep rfl
@[simp ↓] theorem q_vTup : vTup av ρ QV = av ρ (kvTup QV) := keep rfl
@[simp ↓] theorem q_kvTup : kvTup QV ds = (ds.length ≤ sizeLine ∧ QV (.tup ds)) := keep rfl
@[simp ↓] theorem q_oLst : oLst aa ρ QL Z = aa ρ (kLst QL) Z := keep rfl
@[simp ↓] theorem q_kLst : kLst QL ds ρ1 = (ds.length ≤ sizeLine ∧ QL ds ρ1) := keep rfl
@[simp ↓] theorem q_vLst : vLst av ρ QV = av ρ (kvLst QV) := keep rfl
@[simp ↓] theorem q_kvLst : kvLst QV ds = (ds.length ≤ sizeLine ∧ QV (.lst ds)) := keep rfl
@[simp ↓] theorem q_aCall : aCall β aa ρ Q Z = aa ρ (kCall Q β) Z := keep rfl
@[simp ↓] theorem q_kCall : kCall Q β ds ρ1 = β ds (kAt ρ1 Q) := keep rfl
@[simp ↓] theorem q_vCall : vCall β av ρ QV = av ρ (kvCall QV β) := keep rfl
@[simp ↓] theorem q_kvCall : kvCall QV β ds = β ds QV := keep rfl
@[simp ↓] theorem q_vIsi {T : String} : vIsi T va ρ QV = va ρ (kIsi QV T) := keep rfl
@[simp ↓] theorem q_kIsi {T : String} : kIsi QV T d = (d.noObj ∧ QV (.bl (isTy T d))) := keep rfl
@[simp ↓] theorem q_vIsi2 {T U : String} : vIsi2 T U va ρ QV = va ρ (kIsi2 QV T U) := keep rfl
@[simp ↓] theorem q_kIsi2 {T U : String} : kIsi2 QV T U d = (d.noObj ∧ QV (.bl (isTy T d || isTy U d))) := keep rfl
@[simp ↓] theorem q_aNoP : aNoP ρ QP Z = QP none ρ := keep rfl
@[simp ↓] theorem q_aPart : aPart ta ρ QP Z = ta ρ (kPart QP) Z := keep rfl
@[simp ↓] theorem q_kPart : kPart QP d ρ1 = (∃ i, d = .int i ∧ QP (some i) ρ1) := keep rfl
variable {tl th : AP} {l v : Option Int} {k : Int} {s : Str} {bo : Bool}
@[simp ↓] theorem q_oSl : oSl ta tl th ρ QL Z = ta ρ (kSlO1 Z QL tl th) Z := keep rfl
@[simp ↓] theorem q_kSlO1 : kSlO1 Z QL tl th d ρ1 = tl ρ1 (kSlO2 Z QL th d) Z := keep rfl
@[simp ↓] theorem q_kSlO2 : kSlO2 Z QL th d l ρ1 = th ρ1 (kSlO3 QL d l) Z := keep rfl
@[simp ↓] theorem q_kSlO3 : kSlO3 QL d l v ρ1 = (∃ xs, d = .lst xs ∧ QL (cutD xs l v) ρ1) := keep rfl
@[simp ↓] theorem q_aSl : aSl ta tl th ρ Q Z = ta ρ (kSl1 Q Z tl th) Z := keep rfl
@[simp ↓] theorem q_kSl1 : kSl1 Q Z tl th d ρ1 = tl ρ1 (kSl2 Q Z th d) Z := keep rfl
@[simp ↓] theorem q_kSl2 : kSl2 Q Z th d l ρ1 = th ρ1 (kSl3 Q d l) Z := keep rfl
@[simp ↓] theorem q_kSl3s : kSl3 Q (.str s) l v ρ1 = (s.length ≤ sizeLine ∧ Q (.str (cutS s l v)) ρ1) := keep rfl
@[simp ↓] theorem q_kSl3l : kSl3 Q (.lst xs) l v ρ1 = Q (.lst (cutD xs l v)) ρ1 := keep rfl
@[simp ↓] theorem q_kSl3t : kSl3 Q (.tup xs) l v ρ1 = (¬ (HT.sIx xs.length 0 l = 0 ∧ HT.sIx xs.length xs.length v = xs.length) ∧ Q (.tup (cutD xs l v)) ρ1) := keep rfl
@[simp ↓] theorem q_aOwnIx : aOwnIx i ta ρ Q Z = (isOwn ρ i ∧ ta ρ (kOwnIx Q i) Z) := keep rfl
@[simp ↓] theorem q_kOwnIx : kOwnIx Q i (.int k) ρ1 = (match ρ1[i]? with
  | some (.own _ xs) => ∃ d, atI xs k = some d ∧ Q d ρ1
  | _ => False) := by
  unfold kOwnIx
  rcases ρ1[i]? with _ | (_ | _ | ⟨_, _⟩) <;> rfl
@[simp ↓] theorem q_oCat : oCat ta tb ρ QL Z = ta ρ (kCat1 Z QL tb) Z := keep rfl
@[simp ↓] theorem q_kCat1 : kCat1 Z QL tb x ρ1 = tb ρ1 (kCat2 QL x) Z := keep rfl
@[simp ↓] theorem q_kCat2 {ys : List D} : kCat2 QL (.lst xs) (.lst ys) ρ1 = (xs.length + ys.length ≤ sizeLine ∧ QL (xs ++ ys) ρ1) := keep rfl
@[simp ↓] theorem q_oRep : oRep oa tb ρ QL Z = oa ρ (kRep1 Z QL tb) Z := keep rfl
@[simp ↓] theorem q_kRep1 : kRep1 Z QL tb xs ρ1 = tb ρ1 (kRep2 QL xs) Z := keep rfl
@[simp ↓] theorem q_kRep2 : kRep2 QL xs (.int k) ρ1 = (-(2 ^ 63) ≤ k ∧ k < 2 ^ 63 ∧ xs.length * k.toNat ≤ sizeLine ∧ QL (List.replicate k.toNat xs).flatten ρ1) := keep rfl
@[simp ↓] theorem q_oList : oList aa ρ QL Z = aa ρ (kList QL) Z := keep rfl
@[simp ↓] theorem q_kListL : kList QL [.lst xs] ρ1 = QL xs ρ1 := keep rfl
@[simp ↓] theorem q_kListT : kList QL [.tup xs] ρ1 = QL xs ρ1 := keep rfl
@[simp ↓] theorem q_iAny : iAny ta ρ QL Z = ta ρ (kAny QL) Z := keep rfl
@[simp ↓] theorem q_kAnyL : kAny QL (.lst xs) ρ1 = QL xs ρ1 := keep rfl
@[simp ↓] theorem q_kAnyT : kAny QL (.tup xs) ρ1 = QL xs ρ1 := keep rfl
@[simp ↓] theorem q_kAnyS : kAny QL (.str s) ρ1 = QL (signsD s) ρ1 := keep rfl
@[simp ↓] theorem q_iRange1 : iRange1 aa ρ QL Z = aa ρ (kRange1 QL) Z := keep rfl
@[simp ↓] theorem q_kRange1 : kRange1 QL [.int k] ρ1 = (-(2 ^ 62) ≤ k ∧ k < 2 ^ 62 ∧ QL (rangeD 0 k.toNat) ρ1) := keep rfl
@[simp ↓] theorem q_iRange2 : iRange2 aa ρ QL Z = aa ρ (kRange2 QL) Z := keep rfl
@[simp ↓] theorem q_kRange2 {m n : Int} : kRange2 QL [.int m, .int n] ρ1 = ((-(2 ^ 62) ≤ m ∧ m < 2 ^ 62 ∧ -(2 ^ 62) ≤ n ∧ n < 2 ^ 62) ∧ QL (rangeD m (n - m).toNat) ρ1) := keep rfl
@[simp ↓] theorem q_iEnumD : iEnumD aa ρ QL Z = aa ρ (kEnum QL) Z := keep rfl
@[simp ↓] theorem q_kEnum : kEnum QL [.lst xs] ρ1 = QL (enumD xs) ρ1 := keep rfl
@[simp ↓] theorem q_iZipD : iZipD aa ρ QL Z = aa ρ (kZip QL) Z := keep rfl
@[simp ↓] theorem q_kZip {ys : List D} : kZip QL [.lst xs, .lst ys] ρ1 = QL (zipD xs ys) ρ1 := keep rfl
@[simp ↓] theorem q_vChain : vChain b b' va vb vc ρ QV = va ρ (kCh1 ρ QV b b' vb vc) := keep rfl
@[simp ↓] theorem q_kCh1 : kCh1 ρ QV b b' vb vc x = vb ρ (kCh2 ρ QV b b' vc x) := keep rfl
@[simp ↓] theorem q_kCh2 : kCh2 ρ QV b b' vc x y = b x y (kCh3 ρ QV b' vc y) := keep rfl
@[simp ↓] theorem q_kCh3 {z : D} : kCh3 ρ QV b' vc y z = (∃ k, z = .bl k ∧ (if k = true then vc ρ (kCh4 QV b' y) else QV (.bl false))) := keep rfl
@[simp ↓] theorem q_kCh4 {z : D} : kCh4 QV b' y z = b' y z QV := keep rfl
@[simp ↓] theorem q_tCmpE : tCmpE b ta tb ρ QB Z = aOp b ta tb ρ (kCmp QB) Z := keep rfl
@[simp ↓] theorem q_kCmp : kCmp QB d ρ1 = (∃ k, d = .bl k ∧ QB k ρ1) := keep rfl
@[simp ↓] theorem q_tCmpV : tCmpV b va vb ρ QB Z = vOp b va vb ρ (kvCmp ρ QB) := keep rfl
@[simp ↓] theorem q_kvCmp : kvCmp ρ QB d = (∃ k, d = .bl k ∧ QB k ρ) := keep rfl
@[simp ↓] theorem q_tChainV : tChainV b b' va vb vc ρ QB Z = vChain b b' va vb vc ρ (kvCmp ρ QB) := keep rfl
@[simp ↓] theorem q_aYes : aYes ρ QB Z = QB true ρ := keep rfl
variable {ua : AAr} {as : List Ar} {ct : Ctr} {dds : List D} {ρp : List Sv} {ex : Exc}
@[simp ↓] theorem q_rNil : rNil ρ QA Z = QA [] ρ := keep rfl
@[simp ↓] theorem q_rDat : rDat ta ua ρ QA Z = ta ρ (krDat1 Z QA ua) Z := keep rfl
@[simp ↓] theorem q_krDat1 : krDat1 Z QA ua d ρ1 = ua ρ1 (krDat2 QA d) Z := keep rfl
@[simp ↓] theorem q_krDat2 : krDat2 QA d as ρ1 = QA (.dat d :: as) ρ1 := keep rfl
@[simp ↓] theorem q_rIo : rIo i ua ρ QA Z = (isOwn ρ i ∧ ua ρ (krIo QA i) Z) := keep rfl
@[simp ↓] theorem q_krIo : krIo QA i as ρ1 = QA (.io i :: as) ρ1 := keep rfl
@[simp ↓] theorem q_aDef : aDef ct dds ua ρ Q Z = ua ρ (kDef1 Q Z ct dds) Z := keep rfl
@[simp ↓] theorem q_kDef1 : kDef1 Q Z ct dds as ρ1 = (lendOk ρ1 as ∧ ct ((as.map (res ρ1)) ++ dds.map .dat) (kDef2 ρ1 Q as) (kDefX ρ1 Z as)) := keep rfl
@[simp ↓] theorem q_kDef2d : kDef2 ρ Q as (.dat d) ρp = Q d (put ρ as ρp) := keep rfl
@[simp ↓] theorem q_kDef2o : kDef2 ρ Q as (.own bo xs) ρp = Q (.lst xs) (put ρ as ρp) := keep rfl
@[simp ↓] theorem q_kDefX : kDefX ρ Z as ex ρp = Z ex (put ρ as ρp) := keep rfl
@[simp ↓] theorem q_oDef : oDef ct dds ua ρ QL Z = ua ρ (kDefO1 Z QL ct dds) Z := keep rfl
@[simp ↓] theorem q_kDefO1 : kDefO1 Z QL ct dds as ρ1 = (lendOk ρ1 as ∧ ct ((as.map (res ρ1)) ++ dds.map .dat) (kDefO2 ρ1 QL as) (kDefX ρ1 Z as)) := keep rfl
@[simp ↓] theorem q_kDefO2 : kDefO2 ρ QL as (.own bo xs) ρp = QL xs (put ρ as ρp) := keep rfl
@[simp ↓] theorem q_vDef : vDef ct dds av ρ QV = av ρ (kvDef1 QV ct dds) := keep rfl
@[simp ↓] theorem q_kvDef1 : kvDef1 QV ct dds ds = ct (ds.map .dat ++ dds.map .dat) (kvDef2 QV) kNoX := keep rfl
@[simp ↓] theorem q_kvDef2d : kvDef2 QV (.dat d) ρp = QV d := keep rfl
@[simp ↓] theorem q_kvDef2o : kvDef2 QV (.own bo xs) ρp = QV (.lst xs) := keep rfl
variable {ti : AI} {g : AG} {gu : AGs} {R : List Sv → Prop} {tt : AT} {vs : List Nat}
@[simp ↓] theorem q_oLc : oLc ti g tt te vs ρ QL Z = ti ρ (kLc QL g tt te vs) Z := keep rfl
@[simp ↓] theorem q_kLc : kLc QL g tt te vs ds ρ1 = ((∀ i ∈ vs, noOwn ρ1 i) ∧ aComp g tt te vs QL ds [] ρ1) := keep rfl
@[simp ↓] theorem q_agName : agName i d ρ R = (okSet ρ i ∧ R (ρ.set i (.dat d))) := keep rfl
@[simp ↓] theorem q_agNil : agNil ds ρ R = (ds = [] ∧ R ρ) := keep rfl
@[simp ↓] theorem q_agCons : agCons g gu (d :: ds) ρ R = g d ρ (kgCons gu ds R) := keep rfl
@[simp ↓] theorem q_kgCons : kgCons gu ds R ρ1 = gu ds ρ1 R := keep rfl
@[simp ↓] theorem q_agTupT : agTup gu (.tup ds) ρ R = gu ds ρ R := keep rfl
@[simp ↓] theorem q_agTupL : agTup gu (.lst ds) ρ R = gu ds ρ R := keep rfl
variable {st su : AS}
@[simp ↓] theorem q_sAsg : sAsg ta g E ρ = ta ρ (kAsg E g) E.xx := keep rfl
@[simp ↓] theorem q_kAsg : kAsg E g d ρ1 = g d ρ1 E.nx := keep rfl
@[simp ↓] theorem q_sSetO : sSetO oa i E ρ = oa ρ (kSetO E i) E.xx := keep rfl
@[simp ↓] theorem q_kSetO : kSetO E i xs ρ1 = (okSet ρ1 i ∧ E.nx (ρ1.set i (.own false xs))) := keep rfl
@[simp ↓] theorem q_sDrop : sDrop ta E ρ = ta ρ (kDrop E) E.xx := keep rfl
@[simp ↓] theorem q_kDrop : kDrop E d ρ1 = E.nx ρ1 := keep rfl
@[simp ↓] theorem q_sRet : sRet ta E ρ = ta ρ (kRet E) E.xx := keep rfl
@[simp ↓] theorem q_kRet : kRet E d ρ1 = E.rt (.dat d) ρ1 := keep rfl
@[simp ↓] theorem q_sRetO : sRetO oa E ρ = oa ρ (kRetO E) E.xx := keep rfl
@[simp ↓] theorem q_kRetO : kRetO E xs ρ1 = E.rt (.own false xs) ρ1 := keep rfl
@[simp ↓] theorem q_sRetV : sRetV i E ρ = (match ρ[i]? with
  | some (.dat d) => E.rt (.dat d) ρ
  | some (.own false xs) => E.rt (.own false xs) (ρ.set i .un)
  | _ => False) := by
  unfold sRetV
  rcases ρ[i]? with _ | (_ | _ | ⟨_ | _, _⟩ | _ | _) <;> rfl
@[simp ↓] theorem q_sNx : sNx E ρ = E.nx ρ := keep rfl
@[simp ↓] theorem q_sSeq : sSeq st su E ρ = st { E with nx := su E } ρ := keep rfl
@[simp ↓] theorem q_sIf : sIf t st su E ρ = t ρ (kIf E st su) E.xx := keep rfl
@[simp ↓] theorem q_kIf : kIf E st su c ρ1 = if c = true then st E ρ1 else su E ρ1 := keep rfl
@[simp ↓] theorem q_sFor : sFor ti g st E ρ = ti ρ (kFor E g st) E.xx := keep rfl
@[simp ↓] theorem q_kFor : kFor E g st ds ρ1 = aLoop g st E ds ρ1 := keep rfl
@[simp ↓] theorem q_sPar : sPar i j ta tb E ρ = ta ρ (kPar1 tb E i j) E.xx := keep rfl
@[simp ↓] theorem q_kPar1 : kPar1 tb E i j x ρ1 = tb ρ1 (kPar2 E i j x) E.xx := keep rfl
@[simp ↓] theorem q_kPar2 : kPar2 E i j x y ρ1 = (okSet ρ1 i ∧ okSet (ρ1.set i (.dat x)) j ∧ E.nx ((ρ1.set i (.dat x)).set j (.dat y))) := keep rfl
@[simp ↓] theorem q_sAppO : sAppO i ta E ρ = (isOwn ρ i ∧ ta ρ (kApp E i) E.xx) := keep rfl
@[simp ↓] theorem q_kApp : kApp E i d ρ1 = (match ρ1[i]? with
  | some (.own b xs) => xs.length < sizeLine ∧ E.nx (ρ1.set i (.own b (xs ++ [d])))
  | _ => False) := keep rfl
@[simp ↓] theorem q_sPutO {tk : AE} : sPutO i ta tk E ρ = ta ρ (kPut1 E i tk) E.xx := keep rfl
@[simp ↓] theorem q_kPut1 {tk : AE} : kPut1 E i tk d ρ1 = (isOwn ρ1 i ∧ tk ρ1 (kPut2 E i d) E.xx) := keep rfl
@[simp ↓] theorem q_kPut2 : kPut2 E i d (.int k) ρ1 = (match ρ1[i]? with
  | some (.own b xs) => ∃ j, ixN xs.length k = some j ∧ E.nx (ρ1.set i (.own b (xs.set j d)))
  | _ => False) := by
  unfold kPut2
  rcases ρ1[i]? with _ | (_ | _ | ⟨_, _⟩) <;> rfl
@[simp ↓] theorem q_sAug {te : AE} : sAug i b te E ρ = (match ρ[i]? with
  | some (.dat d) => te ρ (kAug1 b E i d) E.xx
  | _ => False) := keep rfl
@[simp ↓] theorem q_kAug1 {e : D} : kAug1 b E i d e ρ1 = b d e (kAug2 E i ρ1) := keep rfl
@[simp ↓] theorem q_kAug2 {z : D} : kAug2 E i ρ1 z = (okSet ρ1 i ∧ E.nx (ρ1.set i (.dat z))) := keep rfl
end
/-! operators -/
section
variable {i j : Int} {x y : Str} {xs ys : List D} {d e : D} {Q : D → Prop}
@[simp ↓] theorem q_bI {C : Int → Int → Prop} {g : Int → Int → D} : bI C g (.int i) (.int j) Q = (C i j ∧ Q (g i j)) := keep rfl
@[simp ↓] theorem q_bAddI : bAdd (.int i) (.int j) Q = Q (.int (i + j)) := keep rfl
@[simp ↓] theorem q_bAddS : bAdd (.str x) (.str y) Q = (x.length + y.length ≤ sizeLine ∧ Q (.str (x ++ y))) := keep rfl
@[simp ↓] theorem q_bAddL : bAdd (.lst xs) (.lst ys) Q = (xs.length + ys.length ≤ sizeLine ∧ Q (.lst (xs ++ ys))) := keep rfl
@[simp ↓] theorem q_bSub : bSub (.int i) (.int j) Q = Q (.int (i - j)) := by simp [bSub]
@[simp ↓] theorem q_bMul : bMul (.int i) (.int j) Q = (CMulA i j ∧ Q (.int (i * j))) := keep rfl
@[simp ↓] theorem q_bDiv : bDiv (.int i) (.int j) Q = (CDivW i j ∧ Q (.int (i / j))) := keep rfl
@[simp ↓] theorem q_bMod : bMod (.int i) (.int j) Q = (0 < j ∧ Q (.int (i % j))) := keep rfl
@[simp ↓] theorem q_bPow : bPow (.int i) (.int j) Q = (CPow i j ∧ Q (.int (i ^ j.toNat))) := keep rfl
@[simp ↓] theorem q_bNeg : bNeg (.int i) Q = Q (.int (-i)) := keep rfl
@[simp ↓] theorem q_bOrdI {f : Int → Int → Bool} {g : List Nat → List Nat → Bool} : bOrd f g (.int i) (.int j) Q = Q (.bl (f i j)) := keep rfl
@[simp ↓] theorem q_bOrdS {f : Int → Int → Bool} {g : List Nat → List Nat → Bool} : bOrd f g (.str x) (.str y) Q = Q (.bl (g x.cps.toList y.cps.toList)) := keep rfl
@[simp ↓] theorem q_bIsN : bIsN d e Q = (e = .non ∧ Q (.bl d.isN)) := keep rfl
@[simp ↓] theorem q_bNotN : bNotN d e Q = (e = .non ∧ Q (.bl (!d.isN))) := keep rfl
@[simp ↓] theorem q_bEq : bEq d e Q = (eqOk2 d e ∧ Q (.bl (PyData.eqv d.py e.py))) := keep rfl
@[simp ↓] theorem q_bNe : bNe d e Q = (eqOk2 d e ∧ Q (.bl (!PyData.eqv d.py e.py))) := keep rfl
@[simp ↓] theorem q_bIxL : bIx (.lst xs) (.int i) Q = (∃ d, atI xs i = some d ∧ Q d) := keep rfl
@[simp ↓] theorem q_bIxT : bIx (.tup xs) (.int i) Q = (∃ d, atI xs i = some d ∧ Q d) := keep rfl
@[simp ↓] theorem q_bIxS : bIx (.str x) (.int i) Q = (x.length ≤ sizeLine ∧ ∃ c, atI x.cps.toList i = some c ∧ Q (.str ⟨#[c]⟩)) := keep rfl
@[simp ↓] theorem q_bLenS : bLen [.str x] Q = (x.length ≤ sizeLine ∧ Q (.int x.length)) := keep rfl
@[simp ↓] theorem q_bLenL : bLen [.lst xs] Q = Q (.int xs.length) := keep rfl
@[simp ↓] theorem q_bLenT : bLen [.tup xs] Q = Q (.int xs.length) := keep rfl
@[simp ↓] theorem q_bOrdC : bOrdC [.str x] Q = (x.length = 1 ∧ Q (.int (x.cps.getD 0 0 : Nat))) := keep rfl
@[simp ↓] theorem q_bIntI : bInt [.int i] Q = Q (.int i) := keep rfl
@[simp ↓] theorem q_bIntB {k : Bool} : bInt [.bl k] Q = Q (.int (if k then 1 else 0)) := keep rfl
@[simp ↓] theorem q_bMin : bMin [.int i, .int j] Q = Q (.int (if j < i then j else i)) := keep rfl
@[simp ↓] theorem q_bSum : bSum [.lst xs] Q = (∃ ns, intsOf xs = some ns ∧ Q (.int ns.sum)) := keep rfl
@[simp ↓] theorem q_bAll : bAll [.lst xs] Q = (∃ ns, blsOf xs = some ns ∧ Q (.bl (ns.all id))) := keep rfl
@[simp ↓] theorem q_bAny : bAny [.lst xs] Q = (∃ ns, blsOf xs = some ns ∧ Q (.bl (ns.any id))) := keep rfl
@[simp ↓] theorem q_bTupleL : bTuple [.lst xs] Q = Q (.tup xs) := keep rfl
@[simp ↓] theorem q_bTupleT : bTuple [.tup xs] Q = Q (.tup xs) := keep rfl
@[simp ↓] theorem q_bRepr : bRepr [d] Q = (d.shOk ∧ Q (.str d.py.shown)) := keep rfl
@[simp ↓] theorem q_flat1 : D.flat (.int i) = true := keep rfl
@[simp ↓] theorem q_flat2 : D.flat (.str x) = true := keep rfl
@[simp ↓] theorem q_flat3 {b : Bool} : D.flat (.bl b) = true := keep rfl
@[simp ↓] theorem q_flat4 : D.flat .non = true := keep rfl
@[simp ↓] theorem q_tru1 {b : Bool} : D.tru (.bl b) = b := keep rfl
@[simp ↓] theorem q_tru2 : D.tru .non = false := keep rfl
@[simp ↓] theorem q_tru3 : D.tru (.int i) = (i != 0) := keep rfl
@[simp ↓] theorem q_tru4 : D.tru (.lst xs) = !xs.isEmpty := keep rfl
@[simp ↓] theorem q_tru5 : D.tru (.tup xs) = !xs.isEmpty := keep rfl
@[simp ↓] theorem q_tok1 {b : Bool} : D.truOk (.bl b) = True := keep rfl
@[simp ↓] theorem q_tok2 : D.truOk .non = True := keep rfl
@[simp ↓] theorem q_tok3 : D.truOk (.int i) = True := keep rfl
@[simp ↓] theorem q_tok4 : D.truOk (.lst xs) = True := keep rfl
@[simp ↓] theorem q_tok5 : D.truOk (.tup xs) = True := keep rfl
@[simp ↓] theorem q_isN1 : D.isN .non = true := keep rfl
@[simp ↓] theorem q_isN2 : D.isN (.int i) = false := keep rfl
@[simp ↓] theorem q_isN3 : D.isN (.str x) = false := keep rfl
@[simp ↓] theorem q_isN4 : D.isN (.tup xs) = false := keep rfl
@[simp ↓] theorem q_isN5 : D.isN (.lst xs) = false := keep rfl
end
@[simp] theorem eqOk2_def {d e : D} : eqOk2 d e = (d.eqOk ∧ e.eqOk ∨ d.isS = true ∧ e.isS = true) := rfl
@[simp] theorem isS_strD {x : Str} : (D.str x).isS = true := rfl
/-! slots -/
/-- a name may get another value -/
def okV : Sv → Prop
  | .own true _ => False
  | _ => True
def okO : Option Sv → Prop
  | some v => okV v
  | none => False
/-- no own list -/
def noV : Sv → Prop
  | .own _ _ => False
  | .tre _ => False
  | _ => True
def noO : Option Sv → Prop
  | some v => noV v
  | none => True
@[simp] theorem okO_some {v : Sv} : okO (some v) = okV v := rfl
@[simp] theorem noO_some {v : Sv} : noO (some v) = noV v := rfl
@[simp] theorem okV_dat {d : D} : okV (.dat d) = True := rfl
@[simp] theorem okV_un : okV .un = True := rfl
@[simp] theorem okV_tre {t : Tr} : okV (.tre t) = True := rfl
@[simp] theorem okV_own {xs : List D} : okV (.own false xs) = True := rfl
@[simp] theorem noV_dat {d : D} : noV (.dat d) = True := rfl
@[simp] theorem noV_un : noV .un = True := rfl
theorem okV_of {v : Sv} (h : noV v) : okV v := by
  cases v <;> first | trivial | exact h.elim
section
variable {ρ : List Sv} {i : Nat}
@[simp ↓] theorem q_okSet : okSet ρ i = okO ρ[i]? := by
  unfold okSet okO okV
  rcases ρ[i]? with _ | (_ | _ | ⟨_ | _, _⟩ | _ | _) <;> rfl
@[simp ↓] theorem q_isOwn : isOwn ρ i = (match ρ[i]? with
  | some (.own _ _) => True
  | _ => False) := keep rfl
@[simp ↓] theorem q_noOwn : noOwn ρ i = noO ρ[i]? := by
  unfold noOwn noO noV
  rcases ρ[i]? with _ | (_ | _ | ⟨_, _⟩ | _ | _) <;> rfl
@[simp ↓] theorem q_resD {d : D} : res ρ (.dat d) = .dat d := keep rfl
@[simp ↓] theorem q_resI : res ρ (.io i) = (match ρ[i]? with
  | some (.own _ xs) => .own true xs
  | _ => .un) := keep rfl
@[simp ↓] theorem q_put0 {ps : List Sv} : put ρ [] ps = ρ := by unfold put; cases ps <;> rfl
@[simp ↓] theorem q_put1 {as : List Ar} {xs : List D} {ps : List Sv} : put ρ (.io i :: as) (.own true xs :: ps) = put (match ρ[i]? with
  | some (.own b _) => ρ.set i (.own b xs)
  | _ => ρ) as ps := by conv => lhs; unfold put
                        rfl
@[simp ↓] theorem q_put2 {as : List Ar} {d : D} {p : Sv} {ps : List Sv} : put ρ (.dat d :: as) (p :: ps) = put ρ as ps := by conv => lhs; unfold put
@[simp ↓] theorem q_put3 {as : List Ar} {d : D} : put ρ (.dat d :: as) [] = ρ := by unfold put; rfl
theorem put_datsA : ∀ (as : List D) (ρ ps : List Sv), put ρ (as.map .dat) ps = ρ
  | [], _, _ => q_put0
  | d :: as, ρ, [] => q_put3
  | d :: as, ρ, p :: ps => by rw [List.map_cons, q_put2]; exact put_datsA as ρ ps
@[simp ↓] theorem q_putD1 {d : D} {ps : List Sv} : put ρ [.dat d] ps = ρ := put_datsA [d] ρ ps
@[simp ↓] theorem q_putD2 {d e : D} {ps : List Sv} : put ρ [.dat d, .dat e] ps = ρ := put_datsA [d, e] ρ ps
@[simp ↓] theorem q_putD3 {d e f : D} {ps : List Sv} : put ρ [.dat d, .dat e, .dat f] ps = ρ := put_datsA [d, e, f] ρ ps
@[simp ↓] theorem q_ios0 : iosOf [] = [] := keep rfl
@[simp ↓] theorem q_ios1 {d : D} {as : List Ar} : iosOf (.dat d :: as) = iosOf as := keep rfl
@[simp ↓] theorem q_ios2 {as : List Ar} : iosOf (.io i :: as) = i :: iosOf as := keep rfl
@[simp ↓] theorem q_lend {as : List Ar} : lendOk ρ as = ((∀ i ∈ iosOf as, isOwn ρ i) ∧ (iosOf as).Nodup) := keep rfl
@[simp ↓] theorem q_startA {n : Nat} : startA n ρ = ρ ++ List.replicate (n - ρ.length) .un := keep rfl
@[simp ↓] theorem q_wipe0 : wipeA ρ [] = ρ := keep rfl
@[simp ↓] theorem q_wipe1 {v : Nat} {vs : List Nat} : wipeA ρ (v :: vs) = (wipeA ρ vs).set v .un := keep rfl
@[simp ↓] theorem q_rest0 {ρ3 : List Sv} : restA ρ ρ3 [] = ρ3 := keep rfl
@[simp ↓] theorem q_rest1 {ρ3 : List Sv} {v : Nat} {vs : List Nat} : restA ρ ρ3 (v :: vs) = (restA ρ ρ3 vs).set v (ρ.getD v .un) := keep rfl
end
/-- the rest of the body under a name -/
theorem seq_hide {t u : AS} {E : AEnds} {ρ : List Sv} (h : ∀ u', u' = u → t { E with nx := u' E } ρ) : sSeq t u E ρ := h u rfl
/-! loops and comprehensions -/
theorem loop_of {g : AG} {tb : AS} {E : AEnds} (I : List D → List Sv → Prop) (h0 : ∀ ρ, I [] ρ → E.nx ρ)
    (hs : ∀ d ds ρ (X : List Sv → Prop), I (d :: ds) ρ → (∀ ρ', I ds ρ' → X ρ') → g d ρ fun ρ1 => tb { E with nx := X, ct := X, bk := E.nx } ρ1) : ∀ ds ρ, I ds ρ → aLoop g tb E ds ρ
  | [], ρ, h => h0 ρ h
  | d :: ds, ρ, h => hs d ds ρ (aLoop g tb E ds) h (loop_of I h0 hs ds)
/-- .. where the body neither returns nor breaks off -/
theorem loop_ofE {g : AG} {tb : AS} {E : AEnds} (I : List D → List Sv → Prop) (h0 : ∀ ρ, I [] ρ → E.nx ρ)
    (hs : ∀ d ds ρ (E' : AEnds), I (d :: ds) ρ → (∀ ρ', I ds ρ' → E'.nx ρ') → g d ρ fun ρ1 => tb E' ρ1) : ∀ ds ρ, I ds ρ → aLoop g tb E ds ρ :=
  loop_of I h0 fun d ds ρ X h hX => hs d ds ρ _ h hX
theorem comp_of {g : AG} {tt : AT} {te : AE} {vs : List Nat} {Q : List D → List Sv → Prop} (I : List D → List D → List Sv → Prop) (h0 : ∀ acc ρ, I [] acc ρ → Q acc ρ)
    (hs : ∀ d ds acc ρ (X : List D → List Sv → Prop), I (d :: ds) acc ρ → (∀ acc' ρ', I ds acc' ρ' → X acc' ρ') → g d (wipeA ρ vs) fun ρ1 => tt ρ1 (fun b ρ2 => if b = true then te ρ2 (fun y ρ3 => acc.length < sizeLine ∧ X (acc ++ [y]) (restA ρ ρ3 vs)) noX else X acc (restA ρ ρ2 vs)) noX) : ∀ ds acc ρ, I ds acc ρ → aComp g tt te vs Q ds acc ρ
  | [], acc, ρ, h => h0 acc ρ h
  | d :: ds, acc, ρ, h => hs d ds acc ρ (fun a r => aComp g tt te vs Q ds a r) h (comp_of I h0 hs ds)
/-- a comprehension that keeps the slots as they are: each element by f -/
theorem comp_map {g : AG} {te : AE} {vs : List Nat} {Q : List D → List Sv → Prop} {ρ : List Sv} (f : D → D) {xs : List D} (hl : xs.length ≤ sizeLine)
    (hs : ∀ d ∈ xs, ∀ X : D → List Sv → Prop, X (f d) ρ → g d (wipeA ρ vs) fun ρ1 => te ρ1 (fun y ρ3 => X y (restA ρ ρ3 vs)) noX) (h : Q (xs.map f) ρ) : aComp g aYes te vs Q xs [] ρ := by
  refine comp_of (fun ds acc ρ' => ρ' = ρ ∧ ∃ ps, xs = ps ++ ds ∧ acc = ps.map f) (fun acc ρ' h0 => ?_) (fun d ds acc ρ' X hI hX => ?_) xs [] ρ ⟨rfl, [], rfl, rfl⟩
  · obtain ⟨rfl, ps, rfl, rfl⟩ := h0
    simpa using h
  · obtain ⟨rfl, ps, rfl, rfl⟩ := hI
    have := hs d (by simp) (fun y r => (ps.map f).length < sizeLine ∧ X (ps.map f ++ [y]) r) ⟨by simp at hl ⊢; omega, hX _ _ ⟨rfl, ps ++ [d], by simp, by simp⟩⟩
    simpa using this
end VS
/-! VSp: measures of data, lists and tuples exchanged. -/
namespace VS
open PySem PySem.Spec PyProof.Rows L2
mutual
/-- what can be shown and compared; (nd) no dicts -/
def D.sok (nd : Bool) : D → Bool
  | .obj _ _ _ => false
  | .dic => !nd
  | .lst xs => D.sokL nd xs
  | .tup xs => D.sokL nd xs
  | .int i => decide (i.natAbs.log2 < 1920)
  | .str x => x.cps.all (· < 0x110000)
  | .non | .bl _ => true
def D.sokL (nd : Bool) : List D → Bool
  | [] => true
  | d :: ds => d.sok nd && D.sokL nd ds
end
mutual
/-- how long it is at most, shown -/
def D.wt : D → Nat
  | .obj _ _ _ => 0
  | .dic => 2
  | .lst xs => D.wtL xs + 3
  | .tup xs => D.wtL xs + 3
  | .int _ => 1922
  | .str x => 10 * x.length + 2
  | .non => 4
  | .bl _ => 5
def D.wtL : List D → Nat
  | [] => 0
  | d :: ds => d.wt + 2 + D.wtL ds
end
mutual
def D.dep : D → Nat
  | .lst xs => D.depL xs + 1
  | .tup xs => D.depL xs + 1
  | .obj _ _ _ => 0
  | .dic => 1
  | .int _ => 0
  | .str _ => 0
  | .non => 0
  | .bl _ => 0
def D.depL : List D → Nat
  | [] => 0
  | d :: ds => max d.dep (D.depL ds)
end
mutual
/-- all tuples as lists -/
def D.norm : D → D
  | .lst xs => .lst (D.normL xs)
  | .tup xs => .lst (D.normL xs)
  | .obj C ns xs => .obj C ns xs
  | .dic => .dic
  | .int i => .int i
  | .str x => .str x
  | .non => .non
  | .bl b => .bl b
def D.normL : List D → List D
  | [] => []
  | d :: ds => d.norm :: D.normL ds
end
theorem sokL_iff {nd : Bool} : ∀ {xs : List D}, D.sokL nd xs = true ↔ ∀ d ∈ xs, d.sok nd = true
  | [] => by simp [D.sokL]
  | d :: ds => by simp [D.sokL, sokL_iff (xs := ds)]
theorem normL_map : ∀ {xs : List D}, D.normL xs = xs.map D.norm
  | [] => by simp [D.normL]
  | d :: ds => by simp [D.normL, normL_map (xs := ds)]
theorem depL_le {k : Nat} : ∀ {xs : List D}, D.depL xs ≤ k ↔ ∀ d ∈ xs, d.dep ≤ k
  | [] => by simp [D.depL]
  | d :: ds => by simp [D.depL, depL_le (xs := ds), Nat.max_le]
theorem wtL_le {k : Nat} : ∀ {xs : List D}, (∀ d ∈ xs, d.wt ≤ k) → D.wtL xs ≤ (k + 2) * xs.length
  | [], _ => by simp [D.wtL]
  | d :: ds, h => by
    have h1 := h d (by simp)
    have h2 := wtL_le (xs := ds) (k := k) fun x hx => h x (by simp [hx])
    simp only [D.wtL, List.length_cons, Nat.mul_add, Nat.mul_one]
    omega
theorem pyL_map : ∀ {xs : List D}, D.pyL xs = xs.map D.py
  | [] => by simp [D.pyL]
  | d :: ds => by simp [D.pyL, pyL_map (xs := ds)]
mutual
theorem pl_of_sok {nd : Bool} : ∀ {d : D}, d.sok nd = true → d.pl nd = true
  | .non, _ => by simp [D.pl]
  | .bl _, _ => by simp [D.pl]
  | .int _, _ => by simp [D.pl]
  | .str _, _ => by simp [D.pl]
  | .lst xs, h => by simp only [D.sok] at h; simp only [D.pl]; exact plL_of_sok h
  | .tup xs, h => by simp only [D.sok] at h; simp only [D.pl]; exact plL_of_sok h
  | .dic, h => by simp only [D.sok] at h; simp only [D.pl]; exact h
  | .obj _ _ _, h => by simp [D.sok] at h
theorem plL_of_sok {nd : Bool} : ∀ {xs : List D}, D.sokL nd xs = true → D.plL nd xs = true
  | [], _ => by simp [D.plL]
  | d :: ds, h => by
    simp only [D.sokL, Bool.and_eq_true] at h
    simp only [D.plL, Bool.and_eq_true]
    exact ⟨pl_of_sok h.1, plL_of_sok h.2⟩
end
mutual
theorem showable_of_sok {nd : Bool} : ∀ {d : D}, d.sok nd = true → d.py.showable = true
  | .non, _ => by simp [D.py, PyData.showable]
  | .bl _, _ => by simp [D.py, PyData.showable]
  | .int _, h => by simpa [D.py, PyData.showable, D.sok] using h
  | .str _, _ => by simp [D.py, PyData.showable]
  | .lst xs, h => by simp only [D.sok] at h; simp only [D.py, PyData.showable]; exact showableL_of_sok h
  | .tup xs, h => by simp only [D.sok] at h; simp only [D.py, PyData.showable]; exact showableL_of_sok h
  | .dic, h => by simp [D.py, PyData.showable, PyData.showableKv]
  | .obj _ _ _, h => by simp [D.sok] at h
theorem showableL_of_sok {nd : Bool} : ∀ {xs : List D}, D.sokL nd xs = true → PyData.showableAll (D.pyL xs) = true
  | [], _ => by simp [D.pyL, PyData.showableAll]
  | d :: ds, h => by
    simp only [D.sokL, Bool.and_eq_true] at h
    simp only [D.pyL, PyData.showableAll, Bool.and_eq_true]
    exact ⟨showable_of_sok h.1, showableL_of_sok h.2⟩
end
mutual
theorem depth_py : ∀ {d : D}, d.py.depth ≤ d.dep
  | .non => by simp [D.py, PyData.depth]
  | .bl _ => by simp [D.py, PyData.depth]
  | .int _ => by simp [D.py, PyData.depth]
  | .str _ => by simp [D.py, PyData.depth]
  | .lst xs => by simp only [D.py, PyData.depth, D.dep]; exact Nat.succ_le_succ depthL_py
  | .tup xs => by simp only [D.py, PyData.depth, D.dep]; exact Nat.succ_le_succ depthL_py
  | .dic => by simp [D.py, PyData.depth, PyData.depthKv, D.dep]
  | .obj _ _ _ => by simp [D.py, PyData.depth]
theorem depthL_py : ∀ {xs : List D}, PyData.depthAll (D.pyL xs) ≤ D.depL xs
  | [] => by simp [D.pyL, PyData.depthAll]
  | d :: ds => by
    simp only [D.pyL, PyData.depthAll, D.depL]
    have h1 := depth_py (d := d)
    have h2 := depthL_py (xs := ds)
    omega
end
mutual
theorem shown_wt {nd : Bool} : ∀ {d : D}, d.sok nd = true → d.py.shown.length ≤ d.wt
  | .non, _ => by
    have : (PyData.shown .none).length = 4 := rfl
    simp only [D.py, D.wt]; omega
  | .bl b, _ => by
    have : (PyData.shown (.bool b)).length ≤ 5 := by cases b <;> decide
    simp only [D.py, D.wt]; omega
  | .int i, h => by
    have h' : i.natAbs.log2 < 1920 := by simpa [D.sok] using h
    have := int_text_len_1921 h'
    simp only [D.py, D.wt, PyData.shown]
    exact Nat.le_succ_of_le this
  | .str x, h => by
    have hx : ∀ c ∈ x.cps.toList, c < 16 ^ 8 := fun c hc => by
      simp only [D.sok] at h
      rw [Array.all_eq_true_iff_forall_mem] at h
      have := h c (Array.mem_toList_iff.mp hc)
      simp at this
      omega
    have e := StrLaws.reprText_len x hx
    simp only [D.py, PyData.shown, D.wt]
    exact e
  | .lst xs, h => by
    simp only [D.sok] at h
    have h1 := shownL_wt h
    have h2 := listText_len_le (PyData.shownAll (D.pyL xs))
    have h3 := PyData.shownAll_length (D.pyL xs)
    simp only [D.py, PyData.shown, D.wt]
    omega
  | .tup xs, h => by
    simp only [D.sok] at h
    have h1 := shownL_wt h
    have h2 := tupleText_len_le (PyData.shownAll (D.pyL xs))
    have h3 := PyData.shownAll_length (D.pyL xs)
    simp only [D.py, PyData.shown, D.wt]
    omega
  | .dic, _ => by
    have : (PyData.shown (.dict [])).length = 2 := rfl
    simp only [D.py, D.wt]; omega
  | .obj _ _ _, h => by simp [D.sok] at h
theorem shownL_wt {nd : Bool} : ∀ {xs : List D}, D.sokL nd xs = true → ((PyData.shownAll (D.pyL xs)).map (·.length)).sum + 2 * (D.pyL xs).length ≤ D.wtL xs
  | [], _ => by simp [D.pyL, PyData.shownAll, D.wtL]
  | d :: ds, h => by
    simp only [D.sokL, Bool.and_eq_true] at h
    have h1 := shown_wt h.1
    have h2 := shownL_wt h.2
    simp only [D.pyL, PyData.shownAll, D.wtL, List.map_cons, List.sum_cons, List.length_cons]
    omega
end
mutual
theorem canLay_of_sok : ∀ {d : D}, d.sok true = true → d.py.canLay0 = true
  | .non, _ => by simp [D.py, PyData.canLay0]
  | .bl _, _ => by simp [D.py, PyData.canLay0]
  | .int _, h => by simp [D.py, PyData.canLay0]
  | .str _, h => by simpa [D.py, PyData.canLay0, D.sok, PyData.strOk] using h
  | .lst xs, h => by simp only [D.sok] at h; simp only [D.py, PyData.canLay0]; exact canLayL_of_sok h
  | .tup xs, h => by simp only [D.sok] at h; simp only [D.py, PyData.canLay0]; exact canLayL_of_sok h
  | .dic, h => by simp [D.sok] at h
  | .obj _ _ _, h => by simp [D.sok] at h
theorem canLayL_of_sok : ∀ {xs : List D}, D.sokL true xs = true → PyData.canLayAll0 (D.pyL xs) = true
  | [], _ => by simp [D.pyL, PyData.canLayAll0]
  | d :: ds, h => by
    simp only [D.sokL, Bool.and_eq_true] at h
    simp only [D.pyL, PyData.canLayAll0, Bool.and_eq_true]
    exact ⟨canLay_of_sok h.1, canLayL_of_sok h.2⟩
end
theorem shOk_of {d : D} (h : d.sok false = true) (hw : d.wt ≤ 16777216) (hd : d.dep ≤ 60) : d.shOk :=
  ⟨pl_of_sok h, showable_of_sok h, Nat.le_trans (shown_wt h) hw, Nat.le_trans depth_py hd⟩
theorem eqOk_of {d : D} (h : d.sok true = true) (hd : d.dep ≤ 64) : d.eqOk :=
  ⟨pl_of_sok h, by simp only [SeqAt.shaped, canLay_of_sok h, Bool.true_and, decide_eq_true_eq]; exact Nat.le_trans depth_py hd⟩
@[simp] theorem eqOk_int {i : Int} : (D.int i).eqOk := ⟨by simp [D.pl], by simp [SeqAt.shaped, D.py, PyData.canLay0, PyData.depth]⟩
@[simp] theorem eqOk_bl {b : Bool} : (D.bl b).eqOk := ⟨by simp [D.pl], by simp [SeqAt.shaped, D.py, PyData.canLay0, PyData.depth]⟩
@[simp] theorem eqOk_non : (D.non).eqOk := ⟨by simp [D.pl], by simp [SeqAt.shaped, D.py, PyData.canLay0, PyData.depth]⟩
@[simp] theorem eqOk_nil : (D.lst []).eqOk := ⟨by simp [D.pl, D.plL], by simp [SeqAt.shaped, D.py, D.pyL, PyData.canLay0, PyData.canLayAll0, PyData.depth, PyData.depthAll]⟩
mutual
theorem sok_norm {nd : Bool} : ∀ {d : D}, d.norm.sok nd = d.sok nd
  | .non => by simp [D.norm]
  | .bl _ => by simp [D.norm]
  | .int _ => by simp [D.norm]
  | .str _ => by simp [D.norm]
  | .lst xs => by simp only [D.norm, D.sok]; exact sokL_norm
  | .tup xs => by simp only [D.norm, D.sok]; exact sokL_norm
  | .dic => by simp [D.norm]
  | .obj _ _ _ => by simp [D.norm]
theorem sokL_norm {nd : Bool} : ∀ {xs : List D}, D.sokL nd (D.normL xs) = D.sokL nd xs
  | [] => by simp [D.normL]
  | d :: ds => by simp only [D.normL, D.sokL, sok_norm (d := d), sokL_norm (xs := ds)]
end
mutual
theorem wt_norm : ∀ {d : D}, d.norm.wt = d.wt
  | .non => by simp [D.norm]
  | .bl _ => by simp [D.norm]
  | .int _ => by simp [D.norm]
  | .str _ => by simp [D.norm]
  | .lst xs => by simp only [D.norm, D.wt, wtL_norm (xs := xs)]
  | .tup xs => by simp only [D.norm, D.wt, wtL_norm (xs := xs)]
  | .dic => by simp [D.norm]
  | .obj _ _ _ => by simp [D.norm]
theorem wtL_norm : ∀ {xs : List D}, D.wtL (D.normL xs) = D.wtL xs
  | [] => by simp [D.normL]
  | d :: ds => by simp only [D.normL, D.wtL, wt_norm (d := d), wtL_norm (xs := ds)]
end
mutual
theorem dep_norm : ∀ {d : D}, d.norm.dep = d.dep
  | .non => by simp [D.norm]
  | .bl _ => by simp [D.norm]
  | .int _ => by simp [D.norm]
  | .str _ => by simp [D.norm]
  | .lst xs => by simp only [D.norm, D.dep, depL_norm (xs := xs)]
  | .tup xs => by simp only [D.norm, D.dep, depL_norm (xs := xs)]
  | .dic => by simp [D.norm]
  | .obj _ _ _ => by simp [D.norm]
theorem depL_norm : ∀ {xs : List D}, D.depL (D.normL xs) = D.depL xs
  | [] => by simp [D.normL]
  | d :: ds => by simp only [D.normL, D.depL, dep_norm (d := d), depL_norm (xs := ds)]
end
/-- the items of a list or a tuple -/
def D.items : D → Option (List D)
  | .lst xs => some xs
  | .tup xs => some xs
  | _ => none
theorem norm_lst {v : D} {ys : List D} (h : v.norm = .lst ys) : ∃ xs, v.items = some xs ∧ xs.map D.norm = ys := by
  cases v with
  | lst xs => simp only [D.norm, D.lst.injEq] at h; exact ⟨xs, rfl, by rw [← normL_map]; exact h⟩
  | tup xs => simp only [D.norm, D.lst.injEq] at h; exact ⟨xs, rfl, by rw [← normL_map]; exact h⟩
  | _ => simp [D.norm] at h
theorem norm_int {v : D} {i : Int} (h : v.norm = .int i) : v = .int i := by cases v <;> simp_all [D.norm]
theorem norm_str {v : D} {x : Str} (h : v.norm = .str x) : v = .str x := by cases v <;> simp_all [D.norm]
/-! numbers -/
theorem log2_lt {i : Int} {n : Nat} (hn : 0 < n) (h : i.natAbs < 2 ^ n) : i.natAbs.log2 < n := by
  by_cases hz : i.natAbs = 0
  · rw [hz]; simpa using hn
  · exact (Nat.log2_lt hz).mpr h
theorem cdivW_of {i j : Int} (h0 : 0 < j) (h : j.natAbs < 2 ^ 9000) : CDivW i j := ⟨h0, log2_lt (by decide) h⟩
theorem cmulA_r {i j : Int} (h1 : -(2 ^ 64) < j) (h2 : j < 2 ^ 64) : CMulA i j := .inl (.inr ⟨h1, h2⟩)
theorem cmulA_l {i j : Int} (h1 : -(2 ^ 64) < i) (h2 : i < 2 ^ 64) : CMulA i j := .inl (.inl ⟨h1, h2⟩)
theorem bits_of {i : Int} {n : Nat} (hn : 0 < n) (h : i.natAbs < 2 ^ n) : Builtin.Int.intBits i ≤ n := by
  have := log2_lt hn h
  unfold Builtin.Int.intBits
  split <;> omega
theorem cmulA_x {i j : Int} (h1 : i.natAbs < 2 ^ 9000) (h2 : j.natAbs < 2 ^ 9000) : CMulA i j := by
  refine .inr ?_
  have e1 := bits_of (by decide) h1
  have e2 := bits_of (by decide) h2
  unfold CMulX
  omega
@[simp] theorem size16 : sizeLine = 16777216 := keep rfl
@[simp] theorem cpowT {i j : Int} : CPow i j = (0 ≤ j ∧ j ≤ 1000000 ∧ i.natAbs < 2 ^ 64) := keep rfl
@[simp] theorem cmulT1 {i j : Int} (h : -(2 ^ 64) < j ∧ j < 2 ^ 64) : CMulA i j = True := eq_true (cmulA_r h.1 h.2)
@[simp] theorem cmulT2 {i j : Int} (h : -(2 ^ 64) < i ∧ i < 2 ^ 64) : CMulA i j = True := eq_true (cmulA_l h.1 h.2)
@[simp] theorem cmulT3 {i j : Int} (h : i.natAbs < 2 ^ 1000 ∧ j.natAbs < 2 ^ 1000) : CMulA i j = True :=
  eq_true (cmulA_x (Nat.lt_of_lt_of_le h.1 (Nat.pow_le_pow_right (by decide) (by decide))) (Nat.lt_of_lt_of_le h.2 (Nat.pow_le_pow_right (by decide) (by decide))))
@[simp] theorem cdivT {i j : Int} (h : 0 < j ∧ j < 2 ^ 64) : CDivW i j = True := eq_true (cdivW_of h.1 (by omega))
end VS
/-! VSq: a text times a number, texts joined. -/
namespace VS
open PySem PySem.Spec PyProof.Rows L2
section
variable {X : Cx} {W : WX} {K : PySem.W.Frag}
/-- a text n times -/
def repS (x : Str) (n : Int) : Str := ⟨(List.replicate n.toNat x.cps.toList).flatten.toArray⟩
theorem foldl_app (y : Array Nat) : ∀ (k : Nat) (acc : Array Nat), (List.replicate k y).foldl (· ++ ·) acc = acc ++ ((List.replicate k y.toList).flatten).toArray
  | 0, acc => by simp
  | k + 1, acc => by
    rw [List.replicate_succ, List.foldl_cons, foldl_app y k (acc ++ y), List.replicate_succ, List.flatten_cons]
    apply Array.ext'
    simp
def rRepS : R2 := fun x y H Q => ∃ s k, x = .str s ∧ y = .int k ∧ -(2 ^ 63) ≤ k ∧ k < 2 ^ 63 ∧ s.length * k.toNat ≤ sizeLine ∧ Q (.str (repS s k)) H
theorem op_mul_str : OpR X (binaryOp .Mult) rRepS := by
  intro pins s σ H x y v u Q I rx ry h
  obtain ⟨z, k, rfl, rfl, h1, h2, hz, q⟩ := h
  obtain ⟨t, rfl⟩ := rx
  obtain ⟨t', rfl⟩ := ry
  have hrep : repS z k = ⟨(List.replicate k.toNat z.cps).foldl (· ++ ·) #[]⟩ := by
    unfold repS
    rw [foldl_app]
    simp
  have hlen : (repS z k).length = z.length * k.toNat := by
    simp [repS, Str.length, Nat.mul_comm]
  refine PySem.P.mul_str (by rw [decide_eq_false (by omega), decide_eq_false (by omega)]; rfl) (fun a b => ?_) (fun a b => decide_eq_false (by omega)) ?_
  · have hk : 0 < k := by omega
    rw [gt_iff_lt, Int.not_lt, Int.le_ediv_iff_mul_le hk]
    have e : (z.length : Int) * k = ((z.length * k.toNat : Nat) : Int) := by rw [Int.natCast_mul, Int.toNat_of_nonneg (by omega)]
    rw [e]
    have : (sizeLine : Nat) = 16777216 := rfl
    omega
  · by_cases a : k < 1
    · rw [if_pos a]
      have e : repS z k = Str.empty := by
        have : k.toNat = 0 := by omega
        simp [repS, this, Str.empty]
      exact ⟨by decide, ⟨.str _, H, I.tok _, ⟨_, rfl⟩, by rw [← e]; exact q⟩⟩
    · rw [if_neg a]
      by_cases b : (k == 1 || z.length == 0) = true
      · rw [if_pos b]
        have e : repS z k = z := by
          rw [Bool.or_eq_true, beq_iff_eq, beq_iff_eq] at b
          rcases b with b | b
          · subst b; simp [repS]
          · obtain ⟨⟨l⟩⟩ := z
            have : l = [] := by cases l <;> first | rfl | cases b
            subst this
            simp [repS]
        exact ⟨.str z, H, I, ⟨t, rfl⟩, by rw [← e]; exact q⟩
      · rw [if_neg b, ← hrep]
        exact ⟨by rw [hlen]; exact hz, ⟨.str _, H, I.tok _, ⟨_, rfl⟩, q⟩⟩
/-- a * b: numbers; a text times a number -/
def bMulB : D → D → (D → Prop) → Prop
  | .int i, .int j, Q => CMulA i j ∧ Q (.int (i * j))
  | .str x, .int k, Q => -(2 ^ 63) ≤ k ∧ k < 2 ^ 63 ∧ x.length * k.toNat ≤ sizeLine ∧ Q (.str (repS x k))
  | _, _, _ => False
def rMulB : R2 := fun x y H Q => rI CMulA (fun i j => .int (i * j)) x y H Q ∨ rRepS x y H Q
theorem op_mulB : OpR X (binaryOp .Mult) rMulB := OpR.or op_mulA op_mul_str
theorem b2_mulB : B2 K rMulB bMulB := fun J H d e v u Q Q' s rv ru h hq => by
  cases d <;> cases e <;> first
    | exact h.elim
    | exact .inl ⟨_, _, rp_int.mp rv, rp_int.mp ru, h.1, hq J H _ _ (Grow.refl s) (rp_i _) h.2⟩
    | exact .inr ⟨_, _, rp_str.mp rv, rp_int.mp ru, h.1, h.2.1, h.2.2.1, hq J H _ _ (Grow.refl s) (rp_s _) h.2.2.2⟩
/-- the texts of a list -/
def strsOf : List D → Option (List Str)
  | [] => some []
  | .str i :: r => (strsOf r).map (i :: ·)
  | _ => none
theorem strsOf_map : ∀ ys : List Str, strsOf (ys.map D.str) = some ys
  | [] => rfl
  | y :: ys => by simp [strsOf, strsOf_map ys]
theorem strsOf_eq : ∀ {ds : List D} {ys : List Str}, strsOf ds = some ys → ds = ys.map D.str
  | [], ys, h => by
    cases h; rfl
  | d :: ds, ys, h => by
    cases d with
    | str i =>
      unfold strsOf at h
      cases e : strsOf ds with
      | none => rw [e] at h; cases h
      | some zs => rw [e] at h; cases h; rw [List.map_cons, ← strsOf_eq e]
    | _ => cases h
theorem RpL.unstrs {G : Hp} : ∀ {ys : List Str} {vs : List V}, RpL K G (ys.map D.str) vs → vs = ys.map V.str
  | [], _, h => rpl_nil.mp h
  | n :: ns, _, h => by
    obtain ⟨v, r, rfl, h2, h3⟩ := rpl_cons.mp h
    rw [rp_str.mp h2, RpL.unstrs h3]
    rfl
/-- sep.join(x) -/
def kJoin2 (Q : KD) (x : D) : KD := fun y ρ2 => match x, y with
  | .str a, .lst ds => ∃ ys, strsOf ds = some ys ∧ (ys.map (·.length)).sum + ys.length * a.length ≤ 16777216 ∧ Q (.str (Txt.join a ys)) ρ2
  | .str a, .tup ds => ∃ ys, strsOf ds = some ys ∧ (ys.map (·.length)).sum + ys.length * a.length ≤ 16777216 ∧ Q (.str (Txt.join a ys)) ρ2
  | _, _ => False
def kJoin1 (Q : KD) (Z : KX) (tb : AE) : KD := fun x ρ1 => (∃ a, x = .str a) ∧ tb ρ1 (kJoin2 Q x) Z
def aJoin (ta tb : AE) : AE := fun ρ Q Z => ta ρ (kJoin1 Q Z tb) Z
theorem e_join {o e : Expr} {ta tb : AE} {apos pos : Pos} (ho : EX X W o ta) (he : EX X W e tb) (hs : starEach [e] X.env = [(false, eval e X.env)] := by rfl) (hbase : attributeBase o "join" X.env (eval o X.env) = eval o X.env := by rfl) (hline : (apos.endLine == pos.line) = true := by rfl) :
    EX X W (.Call (.Attribute o "join" apos) [e] [] pos) (aJoin ta tb) := by
  obtain ⟨T, p, r⟩ := ho.ex
  obtain ⟨U, p', r'⟩ := he.ex
  refine ⟨_, pe_join p p' hs hbase hline, fun P G F ρ σ H Q Z Q' R h hz hq => ?_⟩
  refine r P G F ρ σ H _ Z _ R h hz fun G1 ρ1 H1 v d R1 s1 rv ⟨⟨a, ea⟩, h1⟩ => ?_
  subst ea
  refine ⟨⟨a, rp_str.mp rv⟩, r' P G1 F ρ1 σ H1 _ Z _ R1 h1 (hz.mono s1) fun G2 ρ2 H2 u e R2 s2 ru h2 => ?_⟩
  cases e with
  | lst ds =>
    obtain ⟨ys, e1, e2, q⟩ := h2
    obtain ⟨l, us, rfl, g2, g3⟩ := rp_lst.mp ru
    rw [strsOf_eq e1] at g3
    have e3 := RpL.unstrs g3
    subst e3
    exact ⟨a, l, ys, rp_str.mp rv, rfl, .inl (R2.sg.seq g2), e2, hq G2 ρ2 H2 _ _ R2 (s1.trans s2) (rp_s _) q⟩
  | tup ds =>
    obtain ⟨ys, e1, e2, q⟩ := h2
    obtain ⟨l, us, rfl, g2, g3⟩ := rp_tup.mp ru
    rw [strsOf_eq e1] at g3
    have e3 := RpL.unstrs g3
    subst e3
    exact ⟨a, l, ys, rp_str.mp rv, rfl, .inr (Same.seqT R2.sg g2), e2, hq G2 ρ2 H2 _ _ R2 (s1.trans s2) (rp_s _) q⟩
  | _ => exact h2.elim
end
section
variable {ρ ρ1 : List Sv} {Q : KD} {QV : D → Prop} {Z : KX} {ta tb : AE} {x y : Str} {ds : List D} {i j : Int}
@[simp ↓] theorem q_bMulB1 : bMulB (.int i) (.int j) QV = (CMulA i j ∧ QV (.int (i * j))) := keep rfl
@[simp ↓] theorem q_bMulB2 : bMulB (.str x) (.int j) QV = (-(2 ^ 63) ≤ j ∧ j < 2 ^ 63 ∧ x.length * j.toNat ≤ sizeLine ∧ QV (.str (repS x j))) := keep rfl
@[simp ↓] theorem q_aJoin : aJoin ta tb ρ Q Z = ta ρ (kJoin1 Q Z tb) Z := keep rfl
@[simp ↓] theorem q_kJoin1 : kJoin1 Q Z tb (.str x) ρ1 = tb ρ1 (kJoin2 Q (.str x)) Z := by
  unfold kJoin1
  exact propext ⟨fun h => h.2, fun h => ⟨⟨x, rfl⟩, h⟩⟩
@[simp ↓] theorem q_kJoin2l : kJoin2 Q (.str x) (.lst ds) ρ1 = (∃ ys, strsOf ds = some ys ∧ (ys.map (·.length)).sum + ys.length * x.length ≤ 16777216 ∧ Q (.str (Txt.join x ys)) ρ1) := keep rfl
@[simp ↓] theorem q_kJoin2t : kJoin2 Q (.str x) (.tup ds) ρ1 = (∃ ys, strsOf ds = some ys ∧ (ys.map (·.length)).sum + ys.length * x.length ≤ 16777216 ∧ Q (.str (Txt.join x ys)) ρ1) := keep rfl
end
end VS
/-! VSr: list(a text). -/
namespace VS
open PySem PySem.Spec PyProof.Rows L2
theorem vals_of : ∀ (vs : List V) (us : List Value), vs.length = us.length → (∀ (j : Nat) v u, vs[j]? = some v → us[j]? = some u → RelV v u) → Vals vs us
  | [], [], _, _ => .nil
  | [], _ :: _, h, _ => by cases h
  | _ :: _, [], h, _ => by cases h
  | v :: vs, u :: us, h, hr => .cons (hr 0 v u rfl rfl) (vals_of vs us (by simpa using h) fun j a b e1 e2 => hr (j + 1) a b e1 e2)
section
variable {X : Cx} {W : WX} {K : PySem.W.Frag} {a : Expr} {p pos : Pos}
def signsV (x : Str) : List V := x.cps.toList.map fun c => V.str ⟨#[c]⟩
theorem call_list_strV (hc : X.calm = true) : CallR X (.type "list") (fun xs H Q => ∃ x, xs = [.str x] ∧ x.length ≤ sizeLine ∧ ∀ l, H l = none → Q (.ref l) (upd H l (.lst (signsV x)))) := by
  intro pins s σ H xs us Q I r ⟨x, e, hz, q⟩
  subst e
  obtain ⟨u, rfl, rx⟩ := Vals.one r
  obtain ⟨t, rfl⟩ := rx
  refine PySem.call_list_str (I.ok.hd hc) x t (fun h' tk acc c' hk hD hacc => ?_) hz
  have hv : Vals (signsV x) acc.toList := by
    refine vals_of _ _ (by simp [signsV, hacc.1]) fun j v u e1 e2 => ?_
    obtain ⟨c, w, h1, rfl⟩ := hacc.2 j u (by simpa using e2)
    simp [signsV, h1] at e1
    subst e1
    exact ⟨_, rfl⟩
  exact ⟨.ref s.heap.objs.size, upd H s.heap.objs.size (.lst (signsV x)), I.laid (t' := tk) hk (Nat.le_refl _)
    (show ObjOk X.prog X.w _ _ _ (.lst (signsV x)) from ⟨by rw [signsV, List.length_map, Array.length_toList]; exact hz, acc.toList, c', hv, by rw [Array.toArray_toList]; exact hD⟩), rfl, q _ (I.hok.fresh (Nat.le_refl _))⟩
theorem rpl_signs {G : Hp} (x : Str) : RpL K G (signsD x) (signsV x) := by
  unfold signsD signsV
  generalize x.cps.toList = l
  induction l with
  | nil => exact RpL.nil
  | cons c l ih => exact RpL.cons (rp_s _) ih
/-- list(x), x a list, a tuple or a text -/
def kListA (QL : List D → List Sv → Prop) : List D → List Sv → Prop := fun ds ρ1 => match ds with
  | [.lst xs] => QL xs ρ1
  | [.tup xs] => QL xs ρ1
  | [.str x] => x.length ≤ sizeLine ∧ QL (signsD x) ρ1
  | _ => False
def oListA (t : AA) : AO := fun ρ Q Z => t ρ (kListA Q) Z
theorem CallR.or' {f : Value} {r r' : List V → Hp → VK → Prop} (h : CallR X f r) (h' : CallR X f r') : CallR X f (fun xs H Q => r xs H Q ∨ r' xs H Q) := by
  intro pins s σ H xs us Q I rs q
  rcases q with q | q
  · exact h pins s σ H xs us Q I rs q
  · exact h' pins s σ H xs us Q I rs q
theorem o_listA {u' : AA} (hc : X.calm = true) (hg : Gl X "list") (hm : X.mg "list" = none) (ha : EXs X W [a] u') (he : starEach [a] X.env = (false, eval a X.env) :: starEach [] X.env := by rfl) (hpl : (backTo pos (starEach [] X.env)).any (·.1) = false := by rfl) : EO X W (.Call (.Name "list" p) [a] [] pos) (oListA u') := by
  obtain ⟨T, pa, r⟩ := ha.ex
  refine ⟨_, pe_callTy (CallR.or' call_list_of (call_list_strV hc)) hg hm (by decide +kernel) pa (by decide) (by decide) he hpl, fun P G F ρ σ H Q Z Q' R h hz hq => ?_⟩
  refine r P G F ρ σ H _ Z _ R h hz fun G1 ρ1 H1 vs ds R1 s1 rs q => ?_
  unfold kListA at q
  split at q
  · obtain ⟨v, rfl, rv⟩ := rpl1 rs
    obtain ⟨l, us, rfl, g2, g3⟩ := rp_lst.mp rv
    exact .inl ⟨l, us, rfl, .inl (R1.sg.seq g2), fun p hp => hq G1 ρ1 _ p _ _ (R1.alloc hp) s1 upd_same (R1.sg.free hp) (R1.sf.free hp) (not_own R1 hp) g3 q⟩
  · obtain ⟨v, rfl, rv⟩ := rpl1 rs
    obtain ⟨l, us, rfl, g2, g3⟩ := rp_tup.mp rv
    exact .inl ⟨l, us, rfl, .inr (Same.seqT R1.sg g2), fun p hp => hq G1 ρ1 _ p _ _ (R1.alloc hp) s1 upd_same (R1.sg.free hp) (R1.sf.free hp) (not_own R1 hp) g3 q⟩
  · obtain ⟨v, rfl, rv⟩ := rpl1 rs
    have e := rp_str.mp rv
    subst e
    exact .inr ⟨_, rfl, q.1, fun p hp => hq G1 ρ1 _ p _ _ (R1.alloc hp) s1 upd_same (R1.sg.free hp) (R1.sf.free hp) (not_own R1 hp) (rpl_signs _) q.2⟩
  · exact q.elim
end
section
variable {ρ ρ1 : List Sv} {Z : KX} {QL : List D → List Sv → Prop} {aa : AA} {xs : List D} {s : Str}
@[simp ↓] theorem q_oListA : oListA aa ρ QL Z = aa ρ (kListA QL) Z := keep rfl
@[simp ↓] theorem q_kListAl : kListA QL [.lst xs] ρ1 = QL xs ρ1 := keep rfl
@[simp ↓] theorem q_kListAt : kListA QL [.tup xs] ρ1 = QL xs ρ1 := keep rfl
@[simp ↓] theorem q_kListAs : kListA QL [.str s] ρ1 = (s.length ≤ sizeLine ∧ QL (signsD s) ρ1) := keep rfl
end
end VS
/-! VSs: a, b = (an own list), y. -/
namespace VS
open PySem PySem.Spec PyProof.Rows L2
section
variable {K : PySem.W.Frag} {P : List (Nat × Addr)} {G F F' : Hp} {ρ : List Sv} {σ : St} {H : Hp}
/-- a list of nobody's joins the frame -/
theorem Rel.frameA (R : Rel K P G F ρ σ H) {a : Addr} {vs : List V} (h2 : H a = some (.lst vs)) (h3 : G a = none)
    (hn : NoS ρ σ a) : Rel K P G (upd F a (.lst vs)) ρ σ H where
  len := R.len
  sg := R.sg
  sf := fun b o q => by
    by_cases hb : b = a
    · rw [hb, upd_same] at q; rw [hb, h2]; exact q
    · rw [upd_ne hb] at q; exact R.sf _ _ q
  gf := fun b o q => by
    by_cases hb : b = a
    · rw [hb]; exact h3
    · rw [upd_ne hb] at q; exact R.gf b o q
  dat := R.dat
  own := fun i b xs e => by
    obtain ⟨c, us, g1, g2, g3, g4, g5⟩ := R.own i b xs e
    refine ⟨c, us, g1, g2, g3, ?_, g5⟩
    rw [upd_ne fun z => hn.own i b xs e (by rw [← z]; exact g1)]
    exact g4
  ne := R.ne
  pin := R.pin
  pinc := R.pinc
  tr := R.tr.same (Same.refl _) fun i t b e hb => by
    obtain ⟨_, g2, g3⟩ := R.tr.ex e hb
    exact ⟨rfl, g2, by rw [upd_ne fun z => hn.tre i t e (by rw [← z]; exact hb)]; exact g3⟩
/-- what stands in the frame is no slot's list -/
theorem NoS.ofF (R : Rel K P G F ρ σ H) {a : Addr} {o : HO} (h : F a = some o) : NoS ρ σ a where
  own := fun i b ys e z => by
    obtain ⟨c, us, g1, _, _, g4, _⟩ := R.own i b ys e
    rw [z] at g1
    cases g1
    rw [h] at g4
    cases g4
  tre := fun i t e hb => by
    obtain ⟨_, _, g3⟩ := R.tr.ex e hb
    rw [h] at g3
    cases g3
theorem Rel.unframe (R : Rel K P G F' ρ σ H) (s : Same F F') : Rel K P G F ρ σ H where
  len := R.len
  sg := R.sg
  sf := s.trans R.sf
  gf := fun b o q => R.gf b o (s _ _ q)
  dat := R.dat
  own := fun i b xs e => by
    obtain ⟨c, us, g1, g2, g3, g4, g5⟩ := R.own i b xs e
    exact ⟨c, us, g1, g2, g3, s.free g4, g5⟩
  ne := R.ne
  pin := R.pin
  pinc := R.pinc
  tr := R.tr.same (Same.refl _) fun i t b e hb => by
    obtain ⟨_, g2, g3⟩ := R.tr.ex e hb
    exact ⟨rfl, g2, s.free g3⟩
end
section
variable {X : Cx} {W : WX} {a b : Expr} {oa : AO} {tb : AE} {pos : Pos}
def kParO2 (E : AEnds) (i j : Nat) (xs : List D) : KD := fun y ρ2 => okSet ρ2 i ∧ okSet (ρ2.set i (.own false xs)) j ∧ E.nx ((ρ2.set i (.own false xs)).set j (.dat y))
def kParO1 (tb : AE) (E : AEnds) (i j : Nat) : List D → List Sv → Prop := fun xs ρ1 => tb ρ1 (kParO2 E i j xs) E.xx
def sParO (i j : Nat) (oa : AO) (tb : AE) : AS := fun E ρ => oa ρ (kParO1 tb E i j) E.xx
end
section
variable {ρ ρ1 : List Sv} {oa : AO} {tb : AE} {E : AEnds} {i j : Nat} {xs : List D} {y : D}
@[simp ↓] theorem q_sParO : sParO i j oa tb E ρ = oa ρ (kParO1 tb E i j) E.xx := keep rfl
@[simp ↓] theorem q_kParO1 : kParO1 tb E i j xs ρ1 = tb ρ1 (kParO2 E i j xs) E.xx := keep rfl
@[simp ↓] theorem q_kParO2 : kParO2 E i j xs y ρ1 = (okSet ρ1 i ∧ okSet (ρ1.set i (.own false xs)) j ∧ E.nx ((ρ1.set i (.own false xs)).set j (.dat y))) := keep rfl
/-- x op= e -/
@[simp ↓] theorem q_bAddII {i j : Int} {Q : D → Prop} : bAddI (.int i) (.int j) Q = Q (.int (i + j)) := by simp [bAddI]
@[simp ↓] theorem q_bMulSI {i j : Int} {Q : D → Prop} : bMulS (.int i) (.int j) Q = (CMul i j ∧ Q (.int (i * j))) := keep rfl
end
end VS
/-! VSt: objects: their fields. -/
namespace VS
open PySem PySem.Spec PyProof.Rows L2
section
variable {X : Cx} {W : WX} {e : Expr} {ta : AE} {va : AV} {c f : Str} {pos : Pos}
def kFld (Q : KD) (c f : Str) : KD := fun d ρ1 => match d with
  | .obj c' ns xs => c' = c ∧ isX ns = false ∧ ∃ x, (ns.zip xs).lookup f = some x ∧ Q x ρ1
  | _ => False
def kvFld (Q : D → Prop) (c f : Str) : D → Prop := fun d => match d with
  | .obj c' ns xs => c' = c ∧ isX ns = false ∧ ∃ x, (ns.zip xs).lookup f = some x ∧ Q x
  | _ => False
def aFld (c f : Str) (ta : AE) : AE := fun ρ Q Z => ta ρ (kFld Q c f) Z
def vFld (c f : Str) (va : AV) : AV := fun ρ Q => va ρ (kvFld Q c f)
end
section
variable {ρ ρ1 : List Sv} {Q : KD} {QV : D → Prop} {Z : KX} {ta : AE} {va : AV} {c f : Str} {ns : List Str} {xs : List D}
@[simp ↓] theorem q_aFld : aFld c f ta ρ Q Z = ta ρ (kFld Q c f) Z := keep rfl
@[simp ↓] theorem q_kFld {c' : Str} : kFld Q c f (.obj c' ns xs) ρ1 = (c' = c ∧ isX ns = false ∧ ∃ x, (ns.zip xs).lookup f = some x ∧ Q x ρ1) := keep rfl
@[simp ↓] theorem q_vFld : vFld c f va ρ QV = va ρ (kvFld QV c f) := keep rfl
@[simp ↓] theorem q_kvFld {c' : Str} : kvFld QV c f (.obj c' ns xs) = (c' = c ∧ isX ns = false ∧ ∃ x, (ns.zip xs).lookup f = some x ∧ QV x) := keep rfl
end
end VS
/-! VSu: objects: made. -/
namespace VS
open PySem PySem.Spec PyProof.Rows L2
section
variable {X : Cx} {W : WX} {e : Expr} {es : List Expr} {u' : AA} {x : Str} {ns : List Str} {p pos : Pos}
def kMake (Q : KD) (c : Str) (ns : List Str) : List D → List Sv → Prop := fun ds ρ1 => ds.length = ns.length ∧ isX ns = false ∧ Q (.obj c ns ds) ρ1
def aMake (c : Str) (ns : List Str) (t : AA) : AE := fun ρ Q Z => t ρ (kMake Q c ns) Z
end
section
variable {ρ ρ1 : List Sv} {Q : KD} {Z : KX} {aa : AA} {c : Str} {ns : List Str} {ds : List D}
@[simp ↓] theorem q_aMake : aMake c ns aa ρ Q Z = aa ρ (kMake Q c ns) Z := keep rfl
@[simp ↓] theorem q_kMake : kMake Q c ns ds ρ1 = (ds.length = ns.length ∧ isX ns = false ∧ Q (.obj c ns ds) ρ1) := keep rfl
end
end VS
/-! VSv: methods without arguments; what an __init__ that keeps its arguments does; tuple + tuple. -/
namespace VS
open PySem PySem.Spec PyProof.Rows L2
section
variable {X : Cx} {W : WX} {o : Expr} {ta : AE} {k : Nat} {c m : Str} {ps : List Str} {ctr : Ctr} {apos pos : Pos}
def kMethR (Q : KD) (ρ1 : List Sv) : Sv → List Sv → Prop := fun r _ => match r with
  | .dat d => Q d ρ1
  | .own _ xs => Q (.lst xs) ρ1
  | _ => False
def kMethX (Z : KX) (ρ1 : List Sv) : Exc → List Sv → Prop := fun x _ => Z x ρ1
def kMeth0 (Q : KD) (Z : KX) (c m : Str) (ctr : Ctr) : KD := fun d ρ1 => match d with
  | .obj c' ns xs => c' = c ∧ isX ns = false ∧ m ∉ ns ∧ ctr [.dat (.obj c' ns xs)] (kMethR Q ρ1) (kMethX Z ρ1)
  | _ => False
def aMeth0 (c m : Str) (ctr : Ctr) (ta : AE) : AE := fun ρ Q Z => ta ρ (kMeth0 Q Z c m ctr) Z
end
section
variable {ρ ρ1 : List Sv} {Q : KD} {Z : KX} {ta : AE} {c m : Str} {ctr : Ctr} {ns : List Str} {xs ys : List D} {d : D} {b : Bool} {x : Exc} {ρp : List Sv} {QV : D → Prop}
@[simp ↓] theorem q_aMeth0 : aMeth0 c m ctr ta ρ Q Z = ta ρ (kMeth0 Q Z c m ctr) Z := keep rfl
@[simp ↓] theorem q_kMeth0 {c' : Str} : kMeth0 Q Z c m ctr (.obj c' ns xs) ρ1 = (c' = c ∧ isX ns = false ∧ m ∉ ns ∧ ctr [.dat (.obj c' ns xs)] (kMethR Q ρ1) (kMethX Z ρ1)) := keep rfl
@[simp ↓] theorem q_kMethR1 : kMethR Q ρ1 (.dat d) ρp = Q d ρ1 := keep rfl
@[simp ↓] theorem q_kMethR2 : kMethR Q ρ1 (.own b xs) ρp = Q (.lst xs) ρ1 := keep rfl
@[simp ↓] theorem q_bInS {neg : Bool} {x y : Str} : bIn neg (.str x) (.str y) QV = QV (.bl (if neg then !(!(Builtin.Str.occurrences y x 0 y.length 1).isEmpty) else !(Builtin.Str.occurrences y x 0 y.length 1).isEmpty)) := keep rfl
@[simp ↓] theorem q_kMethX : kMethX Z ρ1 x ρp = Z x ρ1 := keep rfl
end
/-! ### an __init__ that keeps its arguments -/
end VS
/-! VSw: a, b = x, y and a, b, c = x, y, z, own lists among them; while; tuples put together. -/
namespace VS
open PySem PySem.Spec PyProof.Rows L2
/-! ### results of several expressions, own lists among them -/
/-- vs are the values ss; the own lists stand in the frame Fx, each apart from F0 and from the ones before -/
def MRx (K : PySem.W.Frag) (G Fx : Hp) : Hp → List Sv → List V → Prop
  | _, [], vs => vs = []
  | F0, .dat d :: ss, vs => ∃ v r, vs = v :: r ∧ Rp K G d v ∧ MRx K G Fx F0 ss r
  | F0, .own false xs :: ss, vs => ∃ a us r, vs = .ref a :: r ∧ F0 a = none ∧ Fx a = some (.lst us) ∧ RpL K G xs us ∧ MRx K G Fx (upd F0 a (.lst us)) ss r
  | _, _ :: _, _ => False
theorem MRx.mono {K : PySem.W.Frag} {G G' Fx : Hp} (e : Same G G') : ∀ {ss : List Sv} {F0 : Hp} {vs : List V}, MRx K G Fx F0 ss vs → MRx K G' Fx F0 ss vs
  | [], _, _, h => h
  | .dat d :: ss, _, _, ⟨v, r, h1, h2, h3⟩ => ⟨v, r, h1, h2.mono e, MRx.mono e h3⟩
  | .own false xs :: ss, _, _, ⟨a, us, r, h1, h2, h3, h4, h5⟩ => ⟨a, us, r, h1, h2, h3, h4.mono e, MRx.mono e h5⟩
  | .own true xs :: ss, _, _, h => h
  | .un :: ss, _, _, h => h
  | .pr _ _ :: ss, _, _, h => h
  | .tre _ :: ss, _, _, h => h
def delH (F : Hp) (a : Addr) : Hp := fun c => if c = a then none else F c
theorem delH_same {F : Hp} {a : Addr} : Same (delH F a) F := fun c o e => by
  unfold delH at e
  split at e
  · cases e
  · exact e
theorem delH_at {F : Hp} {a : Addr} : delH F a a = none := by unfold delH; rw [if_pos rfl]
theorem delH_ne {F : Hp} {a c : Addr} (h : c ≠ a) : delH F a c = F c := by unfold delH; rw [if_neg h]
theorem MRx.del {K : PySem.W.Frag} {G Fx : Hp} {a : Addr} : ∀ {ss : List Sv} {F1 F0 : Hp} {vs : List V}, (∀ c, F1 c = none → F0 c = none ∧ c ≠ a) → MRx K G Fx F1 ss vs → MRx K G (delH Fx a) F0 ss vs
  | [], _, _, _, _, h => h
  | .dat d :: ss, _, _, _, hc, ⟨v, r, h1, h2, h3⟩ => ⟨v, r, h1, h2, MRx.del hc h3⟩
  | .own false xs :: ss, F1, F0, _, hc, ⟨b, us, r, h1, h2, h3, h4, h5⟩ => by
    obtain ⟨k1, k2⟩ := hc b h2
    refine ⟨b, us, r, h1, k1, by rw [delH_ne k2]; exact h3, h4, MRx.del (fun c hn => ?_) h5⟩
    by_cases e : c = b
    · rw [e, upd_same] at hn; cases hn
    · rw [upd_ne e] at hn; rw [upd_ne e]; exact hc c hn
  | .own true xs :: ss, _, _, _, _, h => h
  | .un :: ss, _, _, _, _, h => h
  | .pr _ _ :: ss, _, _, _, _, h => h
  | .tre _ :: ss, _, _, _, _, h => h
abbrev AM := List Sv → (List Sv → List Sv → Prop) → KX → Prop
structure MX (X : Cx) (W : WX) (es : List Expr) (t : AM) : Prop where
  ex : ∃ T : TA, PA X es T ∧ ∀ P G F ρ σ H (Q : List Sv → List Sv → Prop) (Z : KX) (Q' : List V → Hp → Prop), Rel X.K P G F ρ σ H → t ρ Q Z → XIn X W P G F σ Z →
    (∀ G' ρ' H' vs ss Fx, Rel X.K P G' Fx ρ' σ H' → Same F Fx → Same G G' → MRx X.K G' Fx F ss vs → Q ss ρ' → Q' vs H') → T σ H Q'
def kMC (Q : List Sv → List Sv → Prop) (s : Sv) : List Sv → List Sv → Prop := fun ss ρ2 => Q (s :: ss) ρ2
def kMD (Q : List Sv → List Sv → Prop) (Z : KX) (u : AM) : KD := fun d ρ1 => u ρ1 (kMC Q (.dat d)) Z
def kMO (Q : List Sv → List Sv → Prop) (Z : KX) (u : AM) : List D → List Sv → Prop := fun xs ρ1 => u ρ1 (kMC Q (.own false xs)) Z
def aMNil : AM := fun ρ Q _ => Q [] ρ
def aMD (t : AE) (u : AM) : AM := fun ρ Q Z => t ρ (kMD Q Z u) Z
def aMO (t : AO) (u : AM) : AM := fun ρ Q Z => t ρ (kMO Q Z u) Z
section
variable {X : Cx} {W : WX} {a : Expr} {es : List Expr} {ta : AE} {oa : AO} {u : AM}
theorem m_nil : MX X W [] aMNil := ⟨_, pa_nil, fun P G F ρ σ H Q Z Q' R h hz hq => hq G ρ H [] [] F R (Same.refl _) (Same.refl _) rfl h⟩
theorem m_own (ea : EO X W a oa) (k : MX X W es u) (hs : starEach (a :: es) X.env = (false, eval a X.env) :: starEach es X.env := by rfl) : MX X W (a :: es) (aMO oa u) := by
  obtain ⟨T, p, r⟩ := ea.ex
  obtain ⟨U, p', r'⟩ := k.ex
  refine ⟨_, pa_cons p p' hs, fun P G F ρ σ H Q Z Q' R h hz hq => ?_⟩
  refine r P G F ρ σ H _ Z _ R h hz fun G1 ρ1 H1 l us xs R1 s1 h2 h3 h4 hn hr q => ?_
  have sF : Same F (upd F l (.lst us)) := same_new h4
  have hx' : XIn X W P G1 (upd F l (.lst us)) σ Z := fun G' ρ' H' x cls d R s E z => (hz.mono s1) G' ρ' H' x cls d (R.unframe sF) s E z
  exact r' P G1 _ ρ1 σ H1 _ Z _ (R1.frameA h2 h3 hn) q hx' fun G2 ρ2 H2 vs ss Fx R2 sFx s2 m q => hq G2 ρ2 H2 (.ref l :: vs) (.own false xs :: ss) Fx R2 (sF.trans sFx) (s1.trans s2) ⟨l, us, vs, rfl, h4, sFx _ _ upd_same, hr.mono s2, m⟩ q
end
/-- stored one behind the other -/
def mStore : List Nat → List Sv → List Sv → (List Sv → Prop) → Prop
  | i :: is, s :: ss, ρ, Q => okSet ρ i ∧ mStore is ss (ρ.set i s) Q
  | [], [], ρ, Q => Q ρ
  | _, _, _, _ => False
def setsV : List Nat → List V → St → St
  | i :: is, v :: vs, σ => setsV is vs (σ.set i (some v))
  | _, _, σ => σ
theorem Rel.stores {K : PySem.W.Frag} {P : List (Nat × Addr)} {G F H : Hp} {Q : List Sv → Prop} : ∀ {is : List Nat} {ss : List Sv} {vs : List V} {ρ : List Sv} {σ : St} {Fx : Hp}, Rel K P G Fx ρ σ H → Same F Fx → MRx K G Fx F ss vs → mStore is ss ρ Q → ∃ ρ' Fy, Rel K P G Fy ρ' (setsV is vs σ) H ∧ Same F Fy ∧ Q ρ' ∧ vs.length = is.length
  | [], [], vs, ρ, σ, Fx, R, s, m, h => by
    obtain rfl : vs = [] := m
    exact ⟨ρ, Fx, R, s, h, rfl⟩
  | i :: is, .dat d :: ss, vs, ρ, σ, Fx, R, s, ⟨v, r, e, h2, h3⟩, ⟨ok, h⟩ => by
    subst e
    obtain ⟨ρ', Fy, R', s', q, l⟩ := Rel.stores (R.setD ok h2) s h3 h
    exact ⟨ρ', Fy, R', s', q, congrArg Nat.succ l⟩
  | i :: is, .own false xs :: ss, vs, ρ, σ, Fx, R, s, ⟨a, us, r, e, h2, h3, h4, h5⟩, ⟨ok, h⟩ => by
    subst e
    have R1 := R.unframe (F := delH Fx a) delH_same
    have hn : NoS ρ σ a := NoS.ofF R h3
    have R2 := R1.setO ok (R.sf _ _ h3) (R.gf _ _ h3) delH_at hn h4
    have s2 : Same F (delH Fx a) := fun c o e => by
      rw [delH_ne (ne_of_none e h2)]
      exact s c o e
    obtain ⟨ρ', Fy, R', s', q, l⟩ := Rel.stores R2 s2 (h5.del fun c hc => by
      by_cases e : c = a
      · rw [e, upd_same] at hc; cases hc
      · rw [upd_ne e] at hc; exact ⟨hc, e⟩) h
    exact ⟨ρ', Fy, R', s', q, congrArg Nat.succ l⟩
  | _ :: _, .un :: _, _, _, _, _, _, _, h, _ => h.elim
  | _ :: _, .pr _ _ :: _, _, _, _, _, _, _, h, _ => h.elim
  | _ :: _, .tre _ :: _, _, _, _, _, _, _, h, _ => h.elim
  | _ :: _, .own true _ :: _, _, _, _, _, _, _, h, _ => h.elim
  | [], _ :: _, _, _, _, _, _, _, _, h => h.elim
  | _ :: _, [], _, _, _, _, _, _, _, h => h.elim
def kParM (E : AEnds) (is : List Nat) : List Sv → List Sv → Prop := fun ss ρ1 => mStore is ss ρ1 E.nx
def sParM (is : List Nat) (t : AM) : AS := fun E ρ => t ρ (kParM E is) E.xx
section
variable {X : Cx} {W : WX} {a b c : Expr} {t : AM} {pos : Pos}
theorem s_parM2 {i j : Nat} {x y : Str} {px py pt : Pos} {kt k2 : Nat} {pt2 : Pos} (hc : X.calm = true) (hN : X.N.Nodup) (m : MX X W [a, b] t) (hij : i ≠ j := by decide) (hi : X.N[i]? = some x := by rfl) (hj : X.N[j]? = some y := by rfl)
    (hx : X.env.scope.names.lookup x = some .local := by rfl) (hy : X.env.scope.names.lookup y = some .local := by rfl)
    (hw : swappedStores [.Tuple [.Name x px, .Name y py] kt pt] (.Tuple [a, b] k2 pt2) X.env = pure (some [x, y]) := by rfl) (hs : swapsWithSole [.Tuple [.Name x px, .Name y py] kt pt] (.Tuple [a, b] k2 pt2) pos.line X.env = pure false := by rfl) :
    SX X W (.Assign [.Tuple [.Name x px, .Name y py] kt pt] (.Tuple [a, b] k2 pt2) pos) (sParM [i, j] t) := by
  obtain ⟨T, p, r⟩ := m.ex
  refine ⟨_, ps_par hc hN hi hj hij hx hy p hw hs, fun P G F ρ σ H D D' R h hd => ?_⟩
  refine r P G F ρ σ H _ D.xx _ R h (hd.xx σ) fun G1 ρ1 H1 vs ss Fx R1 sF s1 m q => ?_
  obtain ⟨ρ2, Fy, R2, s2, q2, l⟩ := Rel.stores R1 sF m q
  match vs, l with
  | [u, v], _ => exact ⟨u, v, rfl, hd.nx G1 _ _ H1 (R2.unframe s2) s1 q2⟩
end
section
variable {ρ ρ1 : List Sv} {Q : List Sv → List Sv → Prop} {R : List Sv → Prop} {Z : KX} {ta : AE} {oa : AO} {u : AM} {d : D} {xs : List D} {s : Sv} {ss : List Sv} {E : AEnds} {i : Nat} {is : List Nat}
@[simp ↓] theorem q_aMNil : aMNil ρ Q Z = Q [] ρ := keep rfl
@[simp ↓] theorem q_aMD : aMD ta u ρ Q Z = ta ρ (kMD Q Z u) Z := keep rfl
@[simp ↓] theorem q_aMO : aMO oa u ρ Q Z = oa ρ (kMO Q Z u) Z := keep rfl
@[simp ↓] theorem q_kMD : kMD Q Z u d ρ1 = u ρ1 (kMC Q (.dat d)) Z := keep rfl
@[simp ↓] theorem q_kMO : kMO Q Z u xs ρ1 = u ρ1 (kMC Q (.own false xs)) Z := keep rfl
@[simp ↓] theorem q_kMC : kMC Q s ss ρ1 = Q (s :: ss) ρ1 := keep rfl
@[simp ↓] theorem q_sParM : sParM is u E ρ = u ρ (kParM E is) E.xx := keep rfl
@[simp ↓] theorem q_kParM : kParM E is ss ρ1 = mStore is ss ρ1 E.nx := keep rfl
@[simp ↓] theorem q_mStore1 : mStore (i :: is) (s :: ss) ρ R = (okSet ρ i ∧ mStore is ss (ρ.set i s) R) := keep rfl
@[simp ↓] theorem q_mStore0 : mStore [] [] ρ R = R ρ := keep rfl
end
/-! ### while -/
def kWh (tb : AS) (E : AEnds) (X : List Sv → Prop) : Bool → List Sv → Prop := fun b ρ1 => if b = true then tb { E with nx := X, ct := X, bk := E.nx } ρ1 else E.nx ρ1
@[simp ↓] theorem q_kWh {tb : AS} {E : AEnds} {X : List Sv → Prop} {b : Bool} {ρ : List Sv} : kWh tb E X b ρ = if b = true then tb { E with nx := X, ct := X, bk := E.nx } ρ else E.nx ρ := keep rfl
theorem while_of {tc : AT} {tb : AS} {E : AEnds} {ρ : List Sv} (I : Nat → List Sv → Prop) (m : Nat) (h0 : I m ρ) (hs : ∀ m ρ (X : List Sv → Prop), I m ρ → (∀ m' ρ', m' < m → I m' ρ' → X ρ') → tc ρ (kWh tb E X) E.xx) : sWhile tc tb E ρ :=
  ⟨I, ⟨m, h0⟩, fun m ρ hI => hs m ρ (fun ρ2 => ∃ m', m' < m ∧ I m' ρ2) hI fun m' ρ' hm h => ⟨m', hm, h⟩⟩
/-! ### a + b: also of tuples -/
def bAddB : D → D → (D → Prop) → Prop
  | .int i, .int j, Q => Q (.int (i + j))
  | .str x, .str y, Q => x.length + y.length ≤ sizeLine ∧ Q (.str (x ++ y))
  | .lst xs, .lst ys, Q => xs.length + ys.length ≤ sizeLine ∧ Q (.lst (xs ++ ys))
  | .tup xs, .tup ys, Q => xs.length + ys.length ≤ sizeLine ∧ Q (.tup (xs ++ ys))
  | _, _, _ => False
section
variable {X : Cx} {K : PySem.W.Frag}
def rAddB (K : PySem.W.Frag) : R2 := fun x y H Q => rAdd3 K x y H Q ∨ rCatA K x y H Q
theorem op_addB : OpR X (binaryOp .Add) (rAddB X.K) := OpR.or op_addA op_catA
theorem b2_addB : B2 K (rAddB K) bAddB := fun J H d e v u Q Q' s rv ru h hq => by
  cases d <;> cases e <;> first
    | exact h.elim
    | exact .inl (b2_add J H (.int _) (.int _) v u Q Q' s rv ru h hq)
    | exact .inl (b2_add J H (.str _) (.str _) v u Q Q' s rv ru h hq)
    | exact .inl (b2_add J H (.lst _) (.lst _) v u Q Q' s rv ru h hq)
    | skip
  rename_i xs ys
  obtain ⟨a, vs, rfl, h2, h3⟩ := rp_tup.mp rv
  obtain ⟨b, us, rfl, g2, g3⟩ := rp_tup.mp ru
  refine .inr ⟨a, b, vs, us, rfl, rfl, Same.seqT s h2, Same.seqT s g2, by rw [← h3.length, ← g3.length]; exact h.1, fun e => ?_, fun e1 e2 => ?_, fun e1 e2 p hp => ?_⟩
  all_goals skip
  · subst e
    have : xs = [] := List.length_eq_zero_iff.mp (by rw [h3.length]; rfl)
    subst this
    exact hq J H _ _ (Grow.refl s) ru (by simpa using h.2)
  · subst e2
    have : ys = [] := List.length_eq_zero_iff.mp (by rw [g3.length]; rfl)
    subst this
    exact hq J H _ _ (Grow.refl s) rv (by simpa using h.2)
  · have g := Grow.new (o := .tup (vs ++ us)) s hp
    exact hq _ _ _ _ g (rp_tup.mpr ⟨p, _, rfl, SqT.of upd_same, (h3.append g3).mono g.j⟩) h.2
end
section
variable {i j : Int} {x y : Str} {xs ys : List D} {Q : D → Prop}
@[simp ↓] theorem q_bAddBI : bAddB (.int i) (.int j) Q = Q (.int (i + j)) := keep rfl
@[simp ↓] theorem q_bAddBS : bAddB (.str x) (.str y) Q = (x.length + y.length ≤ sizeLine ∧ Q (.str (x ++ y))) := keep rfl
@[simp ↓] theorem q_bAddBL : bAddB (.lst xs) (.lst ys) Q = (xs.length + ys.length ≤ sizeLine ∧ Q (.lst (xs ++ ys))) := keep rfl
@[simp ↓] theorem q_bAddBT : bAddB (.tup xs) (.tup ys) Q = (xs.length + ys.length ≤ sizeLine ∧ Q (.tup (xs ++ ys))) := keep rfl
end
end VS
/-! VSx: exceptions: raised, caught, kept as data. -/
namespace VS
open PySem PySem.Spec PyProof.Rows L2
/-! ### statements over a family of contexts -/
def wpS (C : Cx → Prop) (sts : List Stmt) : TS := fun D σ H => ∀ Y, C Y → ∀ pins s, Inv Y pins σ H s → wpAny (model Y.prog Y.w) Y.A (execs sts Y.env) (SP Y pins D) Y.xe s
theorem pss_wp {C : Cx → Prop} {sts : List Stmt} {X : Cx} (h : C X) : PSs X sts (wpS C sts) := ⟨fun pins s σ H D I q => q X h pins s I⟩
/-! ### a caught exception is tracked -/
theorem xo_at {P : Program} {w : World} {H : Hp} {h : Heap} {a : Addr} {oe : Obj} (hok : HOk P w H h) (e : H a = some (xo a oe)) : h.get? a = some oe := by
  have x : ObjOk P w H h a (.ext fun h => h.get? a = some oe) := hok a _ e
  exact x.1
/-! ### try: .. except x as n: .. -/
/-- the exception as data -/
def excD (x : Exc) : D := match x.fld with
  | none => .obj x.c ["!"] [.non]
  | some (f, y) => .obj x.c ["!", f] [.non, y]
/-- which classes an except clause catches -/
def CatchC (K : PySem.W.Frag) (c : Value) (cl : List (Str × Bool)) : Prop := ∀ n b, cl.lookup n = some b → ∀ C, PySem.W.nsIn K mainGlobals n = some (some (.ref C)) → PySem.W.exmOne K (.ref C) c = some b
def kTryN (N : List Sv → Prop) (i : Nat) : List Sv → Prop := fun ρ2 => noOwn ρ2 i ∧ N (ρ2.set i .un)
def kTryX (D : AEnds) (i : Nat) (cl : List (Str × Bool)) (ts : AS) : KX := fun x ρ' => ∃ b, cl.lookup x.c = some b ∧ if b = true then okSet ρ' i ∧ ts { nx := kTryN D.nx i, rt := D.rt, bk := kTryN D.bk i, ct := kTryN D.ct i, xx := noX } (ρ'.set i (.dat (excD x))) else D.xx x ρ'
def sTryAs (i : Nat) (cl : List (Str × Bool)) (tb ts : AS) : AS := fun D ρ => tb { D with xx := kTryX D i cl ts } ρ
section
variable {ρ : List Sv} {D : AEnds} {i : Nat} {cl : List (Str × Bool)} {tb ts : AS} {x : Exc} {N : List Sv → Prop}
@[simp ↓] theorem q_sTryAs : sTryAs i cl tb ts D ρ = tb { D with xx := kTryX D i cl ts } ρ := keep rfl
@[simp ↓] theorem q_kTryN : kTryN N i ρ = (noOwn ρ i ∧ N (ρ.set i .un)) := keep rfl
end
/-! ### raise -/
structure RaiC (K : PySem.W.Frag) (mg : Str → Option Value) (c : Str) : Prop where
  ex : ∃ C, PySem.W.nsIn K mainGlobals c = some (some (.ref C)) ∧ mg c = some (.ref C) ∧ PySem.W.excIn K C [.type "ValueError", .type "Exception", .type "BaseException", .type "object"] "ValueError.__new__" = true ∧ PySem.W.keepIn K (.ref C) = true ∧ PySem.W.subIn K (.ref C) (.type "BaseException") = some true ∧ PySem.W.typeIn K (.ref C) = some (.type "type")
def sRaise0 (c : Str) : AS := fun D ρ => D.xx ⟨c, none⟩ ρ
def kRaise1 (D : AEnds) (c f : Str) : KD := fun y ρ1 => D.xx ⟨c, some (f, y)⟩ ρ1
def sRaise1 (c f : Str) (t : AE) : AS := fun D ρ => t ρ (kRaise1 D c f) D.xx
section
variable {X : Cx} {W : WX} {c f m : Str} {j : Nat} {p p2 pos pos' : Pos} {e : Expr} {te : AE}
theorem s_raise0 (hc : X.calm = true) (tk : L2N.Takes X W) (r : RaiC X.K X.mg c) (hg : Gl X c) (hdb : (c == ("__debug__" : Str)) = false := by decide) : SX X W (.Raise (some (.Call (.Name c p) [.Constant (.str m) j p2] [] pos)) none pos') (sRaise0 c) := by
  obtain ⟨C, h1, h2, h3, h4, h5, h6⟩ := r.ex
  refine ⟨_, L2N.ps_raise hc tk (L2N.pmk_own PySem.F.excBase_ValueError h3 h2 h4 (raises_own h5 h6) hg hdb), fun P G F ρ σ H D D' R h hd => ?_⟩
  exact (hd.xx σ) G ρ H ⟨c, none⟩ (.ref C) none R (Same.refl _) ⟨⟨C, h1, rfl⟩, rfl⟩ h
end
section
variable {ρ ρ1 : List Sv} {D : AEnds} {c f : Str} {te : AE} {y : VS.D}
@[simp ↓] theorem q_sRaise0 : sRaise0 c D ρ = D.xx ⟨c, none⟩ ρ := keep rfl
@[simp ↓] theorem q_sRaise1 : sRaise1 c f te D ρ = te ρ (kRaise1 D c f) D.xx := keep rfl
@[simp ↓] theorem q_kRaise1 : kRaise1 D c f y ρ1 = D.xx ⟨c, some (f, y)⟩ ρ1 := keep rfl
end
/-! ### SlashError.__init__(self, ..) -/
/-! ### fields of exceptions -/
section
variable {X : Cx} {W : WX} {e : Expr} {ta : AE} {va : AV} {c f : Str} {pos : Pos}
def kXfld (Q : KD) (c f : Str) : KD := fun d ρ1 => match d with
  | .obj c' ns xs => c' = c ∧ ∃ y, ns = (["!", f] : List Str) ∧ xs = [.non, y] ∧ Q y ρ1
  | _ => False
def aXfld (c f : Str) (ta : AE) : AE := fun ρ Q Z => ta ρ (kXfld Q c f) Z
end
section
variable {ρ ρ1 : List Sv} {Q : KD} {Z : KX} {ta : AE} {c f g : Str} {y : D}
@[simp ↓] theorem q_aXfld : aXfld c f ta ρ Q Z = ta ρ (kXfld Q c f) Z := keep rfl
@[simp ↓] theorem q_kXfld : kXfld Q c f (excD ⟨c, some (f, y)⟩) ρ = Q y ρ := propext ⟨fun ⟨_, z, _, e, h⟩ => by
    have : y = z := by simpa using e
    rw [this]; exact h, fun h => ⟨rfl, y, rfl, rfl, h⟩⟩
end
/-! ### isinstance of exceptions -/
end VS
/-! VSy: exceptions by the names of their classes. -/
namespace VS
open PySem PySem.Spec PyProof.Rows L2
theorem Run.tr {X : Cx} {k : Nat} {pn : List (Addr × Obj)} {xe : Value → Shared → Prop} (r : Run k X) : Run k (X.tr pn xe) := ⟨r.hr, r.hg, r.hs⟩
theorem catch_nil {K : PySem.W.Frag} {c : Value} : CatchC K c [] := fun _ _ e => by cases e
theorem catch_cons {K : PySem.W.Frag} {c : Value} {n : Str} {b : Bool} {l : List (Str × Bool)} (h : ∀ C, PySem.W.nsIn K mainGlobals n = some (some (.ref C)) → PySem.W.exmOne K (.ref C) c = some b) (t : CatchC K c l) : CatchC K c ((n, b) :: l) := fun m d e => by
  rw [List.lookup_cons] at e
  split at e
  · rename_i z
    have := beq_iff_eq.mp z
    subst this
    cases e
    exact h
  · exact t m d e
/-- the class x of the module, as an except clause names it -/
def HndC (K : PySem.W.Frag) (mg : Str → Option Value) (x : Str) (cl : List (Str × Bool)) : Prop := ∃ C, mg x = some (.ref C) ∧ CatchC K (.ref C) cl
end VS
/-! VSz: the exception classes of the module. -/
namespace VS
open PySem PySem.Spec PyProof.Rows L2
/-- an exception class of the module -/
structure EC (K : PySem.W.Frag) (n : Str) (C : Addr) : Prop where
  a : PySem.W.nsIn K mainGlobals n = some (some (.ref C))
  b : PySem.W.subIn K (.ref C) (.type "BaseException") = some true
  v : PySem.W.subIn K (.ref C) (.type "ValueError") = some true
  s : PySem.W.subIn K (.ref C) (.ref C) = some true
  t : PySem.W.typeIn K (.ref C) = some (.type "type")
  h : PySem.W.hasDictIn K C = true
  k : PySem.W.keepIn K (.ref C) = true
  g : PySem.W.findIn K (.ref C) "__getattribute__" = some (some (.builtin "BaseException.__getattribute__"))
  r : PySem.W.findIn K (.ref C) "__getattr__" = some none
  c : PySem.W.findIn K (.ref C) "__class__" = some (some (.builtin "object.__class__"))
  o : PySem.W.mroIn K C (.type "object") = some true
structure ECs (K : PySem.W.Frag) : Prop where
  n : PySem.W.specialIn K (.builtin "object.__class__") "__get__" = some (some (.builtin "getset_descriptor.__get__"))
  t : PySem.W.takesIn K (.builtin "object.__class__") = some true
section
variable {K : PySem.W.Frag} {n m : Str} {C D : Addr} {b : Bool}
theorem cat_ab {p : Addr → Prop} (z : PySem.W.nsIn K mainGlobals n = some none) : ∀ C', PySem.W.nsIn K mainGlobals n = some (some (.ref C')) → p C' := fun _ q => by
  rw [z] at q
  cases q
theorem cat_ec (e : EC K n C) (d : EC K m D) (s : PySem.W.subIn K (.ref C) (.ref D) = some b) : ∀ C', PySem.W.nsIn K mainGlobals n = some (some (.ref C')) → PySem.W.exmOne K (.ref C') (.ref D) = some b := fun C' q => by
  rw [e.a] at q
  cases q
  exact PySem.W.exm_ref d.b d.h d.t s
theorem rai_ec {mg : Str → Option Value} (e : EC K n C) (hm : mg n = some (.ref C)) (x : PySem.W.excIn K C [.type "ValueError", .type "Exception", .type "BaseException", .type "object"] "ValueError.__new__" = true) : RaiC K mg n := ⟨C, e.a, hm, x, e.k, e.b, e.t⟩
end
def cl_NoMove : List (Str × Bool) := [("SlashError", false), ("NotEscaped", false), ("TooLong", false), ("Contradiction", false), ("ParseError", false), ("InvalidText", false), ("InvalidSymbols", false), ("InvalidPosition", false), ("InvalidNumber", false), ("InvalidHistory", false), ("InvalidScript", false), ("InvalidFacts", false), ("NoMove", true), ("NothingToUndo", false), ("InvalidCommand", false)]
/-! ### x.extend(own list), x.bit_length() -/
section
variable {X : Cx} {W : WX} {e : Expr} {to : AO} {te : AE} {pos : Pos}
def kExtO (E : AEnds) (i : Nat) : List D → List Sv → Prop := fun xs ρ1 => match ρ1[i]? with
  | some (.own b ys) => ys.length + xs.length ≤ sizeLine ∧ E.nx (ρ1.set i (.own b (ys ++ xs)))
  | _ => False
def sExtO (i : Nat) (to : AO) : AS := fun D ρ => isOwn ρ i ∧ to ρ (kExtO D i) D.xx
end
section
variable {ρ ρ1 : List Sv} {D : AEnds} {E : AEnds} {i : Nat} {to : AO} {ta : AE} {Q : KD} {Z : KX} {xs : List VS.D} {j : Int}
@[simp ↓] theorem q_sExtO : sExtO i to D ρ = (isOwn ρ i ∧ to ρ (kExtO D i) D.xx) := keep rfl
@[simp ↓] theorem q_kExtO : kExtO E i xs ρ1 = (match ρ1[i]? with
  | some (.own b ys) => ys.length + xs.length ≤ sizeLine ∧ E.nx (ρ1.set i (.own b (ys ++ xs)))
  | _ => False) := keep rfl
end
end VS
/-! VSA: min(xs, default=d) of a list of ints. -/
namespace VS
open PySem PySem.Spec PyProof.Rows L2
section
variable {X : Cx} {W : WX} {a b : Expr} {ta tb : AE} {p pos kp : Pos}
def minOr : List Int → D → D
  | [], d => d
  | n :: ns, _ => .int (ns.foldl min n)
def kMinD2 (Q : KD) (x : D) : KD := fun d ρ2 => match x with
  | .lst xs => ∃ ns, intsOf xs = some ns ∧ Q (minOr ns d) ρ2
  | _ => False
def kMinD1 (Q : KD) (Z : KX) (tb : AE) : KD := fun x ρ1 => tb ρ1 (kMinD2 Q x) Z
def aMinD (ta tb : AE) : AE := fun ρ Q Z => ta ρ (kMinD1 Q Z tb) Z
end
section
variable {ρ ρ1 : List Sv} {Q : KD} {Z : KX} {ta tb : AE} {x d : D} {xs : List D}
@[simp ↓] theorem q_aMinD : aMinD ta tb ρ Q Z = ta ρ (kMinD1 Q Z tb) Z := keep rfl
@[simp ↓] theorem q_kMinD1 : kMinD1 Q Z tb x ρ1 = tb ρ1 (kMinD2 Q x) Z := keep rfl
@[simp ↓] theorem q_kMinD2 : kMinD2 Q (.lst xs) d ρ1 = (∃ ns, intsOf xs = some ns ∧ Q (minOr ns d) ρ1) := keep rfl
end
def bMin1 : List D → (D → Prop) → Prop
  | [.lst xs], Q => ∃ ns, intsOf xs = some ns ∧ ns ≠ [] ∧ Q (minOr ns .non)
  | _, _ => False
@[simp ↓] theorem q_bMin1 {xs : List D} {Q : D → Prop} : bMin1 [.lst xs] Q = (∃ ns, intsOf xs = some ns ∧ ns ≠ [] ∧ Q (minOr ns .non)) := keep rfl
end VS
/-! VSB: functions in a list, called by index; list(range(..)); texts: str(i), split, index, upper; range downwards; pop. -/
namespace VS
open PySem PySem.Spec PyProof.Rows L2
/-! ### [f, g][i](..) -/
section
variable {X : Cx} {W : WX} {pos p1 p2 : Pos} {a ix : Expr} {es fes : List Expr} {u : AAr} {ti : AE} {n k : Nat}
def kPick1 (Q : KD) (Z : KX) (cs : List Ctr) (u : AAr) : KD := fun d ρ1 => match d with
  | .int i => ∃ c, atI cs i = some c ∧ aDef c [] u ρ1 Q Z
  | _ => False
def aPick (cs : List Ctr) (ti : AE) (u : AAr) : AE := fun ρ Q Z => ti ρ (kPick1 Q Z cs u) Z
end
section
variable {ρ ρ1 : List Sv} {Q : KD} {Z : KX} {cs : List Ctr} {u : AAr} {ti : AE} {i : Int}
@[simp ↓] theorem q_aPick : aPick cs ti u ρ Q Z = ti ρ (kPick1 Q Z cs u) Z := keep rfl
@[simp ↓] theorem q_kPick1 : kPick1 Q Z cs u (.int i) ρ1 = (∃ c, atI cs i = some c ∧ aDef c [] u ρ1 Q Z) := keep rfl
end
/-! ### list(range(..)) -/
section
variable {X : Cx} {W : WX} {pos p1 : Pos} {a b : Expr} {ta tb : AE}
def kRgL1 (QL : List D → List Sv → Prop) : KD := fun d ρ1 => match d with
  | .int n => RgOk 0 n ∧ QL (rangeD 0 n.toNat) ρ1
  | _ => False
def oRgL1 (ta : AE) : AO := fun ρ Q Z => ta ρ (kRgL1 Q) Z
def kRgL2b (QL : List D → List Sv → Prop) (x : D) : KD := fun d ρ1 => match x, d with
  | .int m, .int n => RgOk m n ∧ QL (rangeD m (n - m).toNat) ρ1
  | _, _ => False
def kRgL2 (QL : List D → List Sv → Prop) (Z : KX) (tb : AE) : KD := fun x ρ1 => tb ρ1 (kRgL2b QL x) Z
def oRgL2 (ta tb : AE) : AO := fun ρ Q Z => ta ρ (kRgL2 Q Z tb) Z
end
section
variable {ρ ρ1 : List Sv} {QL : List D → List Sv → Prop} {Z : KX} {ta tb : AE} {i j : Int}
@[simp ↓] theorem q_oRgL1 : oRgL1 ta ρ QL Z = ta ρ (kRgL1 QL) Z := keep rfl
@[simp ↓] theorem q_kRgL1 : kRgL1 QL (.int i) ρ1 = (RgOk 0 i ∧ QL (rangeD 0 i.toNat) ρ1) := keep rfl
@[simp ↓] theorem q_oRgL2 : oRgL2 ta tb ρ QL Z = ta ρ (kRgL2 QL Z tb) Z := keep rfl
@[simp ↓] theorem q_kRgL2 {x : D} : kRgL2 QL Z tb x ρ1 = tb ρ1 (kRgL2b QL x) Z := keep rfl
@[simp ↓] theorem q_kRgL2b : kRgL2b QL (.int i) (.int j) ρ1 = (RgOk i j ∧ QL (rangeD i (j - i).toNat) ρ1) := keep rfl
end
/-! ### texts -/
section
variable {X : Cx} {W : WX} {pos apos : Pos} {o e : Expr} {ta tb : AE}
def bStrI : List D → (D → Prop) → Prop
  | [.int i], Q => i.natAbs.log2 < 1920 ∧ Q (.str (Str.ofString (toString i)))
  | _, _ => False
/-- x.split(sep), a list of its own -/
def kSplit2 (QL : List D → List Sv → Prop) (x : D) : KD := fun y ρ2 => match x, y with
  | .str a, .str b => (b.length == 0) = false ∧ a.length + 2 ≤ sizeLine ∧ QL ((Txt.split a b).map D.str) ρ2
  | _, _ => False
def kSplit1 (QL : List D → List Sv → Prop) (Z : KX) (tb : AE) : KD := fun x ρ1 => (∃ a, x = .str a) ∧ tb ρ1 (kSplit2 QL x) Z
def oSplit (ta tb : AE) : AO := fun ρ Q Z => ta ρ (kSplit1 Q Z tb) Z
theorem RpL.strs {K : PySem.W.Frag} {G : Hp} : ∀ ys : List Str, RpL K G (ys.map D.str) (ys.map V.str)
  | [] => RpL.nil
  | y :: ys => RpL.cons (rp_s _) (RpL.strs ys)
/-- x.index(sign) -/
def kSix2 (Q : KD) (x : D) : KD := fun y ρ2 => match x, y with
  | .str a, .str b => ∃ i rest, Builtin.Str.occurrences a b 0 a.length 1 = i :: rest ∧ Q (.int (i : Nat)) ρ2
  | _, _ => False
def kSix1 (Q : KD) (Z : KX) (tb : AE) : KD := fun x ρ1 => (∃ a, x = .str a) ∧ tb ρ1 (kSix2 Q x) Z
def aSix (ta tb : AE) : AE := fun ρ Q Z => ta ρ (kSix1 Q Z tb) Z
/-- x.upper() -/
def kUpp (Q : KD) : KD := fun x ρ1 => match x with
  | .str a => a.length ≤ 5592405 ∧ Q (.str (Txt.upper a)) ρ1
  | _ => False
def aUpp (ta : AE) : AE := fun ρ Q Z => ta ρ (kUpp Q) Z
theorem e_upp (ho : EX X W o ta) (hbase : attributeBase o "upper" X.env (eval o X.env) = eval o X.env := by rfl) (hline : (apos.endLine == pos.line) = true := by rfl) :
    EX X W (.Call (.Attribute o "upper" apos) [] [] pos) (aUpp ta) := by
  obtain ⟨T, p, r⟩ := ho.ex
  refine ⟨_, pe_upper p hbase hline, fun P G F ρ σ H Q Z Q' R h hz hq => ?_⟩
  refine r P G F ρ σ H _ Z _ R h hz fun G1 ρ1 H1 v d R1 s1 rv h1 => ?_
  cases d with
  | str a => exact ⟨⟨a, rp_str.mp rv⟩, a, rp_str.mp rv, rfl, h1.1, hq G1 ρ1 H1 _ _ R1 s1 (rp_s _) h1.2⟩
  | _ => exact h1.elim
end
/-! ### range(i, j, -1) -/
/-! ### x.pop(), x.pop(k), x a list of its own -/
section
variable {X : Cx} {W : WX} {e : Expr} {te : AE}
def aPop (i : Nat) : AE := fun ρ Q _ => match ρ[i]? with
  | some (.own b xs) => ∃ d, xs[xs.length - 1]? = some d ∧ Q d (ρ.set i (.own b xs.dropLast))
  | _ => False
theorem e_pop {i : Nat} {x : Str} {p1 apos cpos : Pos} (hi : X.N[i]? = some x := by rfl) (hv : Vis X.env.scope x := by first | exact Or.inl rfl | exact Or.inr (Or.inl rfl) | exact Or.inr (Or.inr rfl)) (hd1 : (x == ("__debug__" : Str)) = false := by decide)
    (hcd : (x == ("__classdict__" : Str)) = false := by decide) (hp : PE X (.Call (.Attribute (.Name x p1) "pop" apos) [] [] cpos) (tBM0 X.K "list" rPop (tVar i))) : EX X W (.Call (.Attribute (.Name x p1) "pop" apos) [] [] cpos) (aPop i) := by
  refine ⟨_, hp, fun P G F ρ σ H Q Z Q' R h hz hq => ?_⟩
  unfold aPop at h
  split at h
  · rename_i b xs e0
    obtain ⟨d, hd, q⟩ := h
    obtain ⟨a, vs, g1, g2, g3, g4, g5⟩ := R.own i b xs e0
    obtain ⟨y, hy, ry⟩ := g5.get hd
    refine ⟨.ref a, g1, .inl ⟨rfl, _, .inl (.inl g2)⟩, a, vs, y, rfl, rfl, g2, by rw [← g5.length]; exact hy, ?_⟩
    exact hq G _ _ y d (R.write e0 g1 g5.dropLast) (Same.refl _) ry q
  · exact h.elim
def kPopAt (Q : KD) (i : Nat) : KD := fun k ρ1 => match k, ρ1[i]? with
  | .int k, some (.own b xs) => ∃ j d, ixN xs.length k = some j ∧ -(2 ^ 63) ≤ k ∧ k < 2 ^ 63 ∧ xs[j]? = some d ∧ Q d (ρ1.set i (.own b (xs.eraseIdx j)))
  | _, _ => False
def aPopAt (i : Nat) (te : AE) : AE := fun ρ Q Z => isOwn ρ i ∧ te ρ (kPopAt Q i) Z
theorem e_popAt {i : Nat} {x : Str} {p1 apos cpos : Pos} (he : EX X W e te) (hi : X.N[i]? = some x := by rfl) (hv : Vis X.env.scope x := by first | exact Or.inl rfl | exact Or.inr (Or.inl rfl) | exact Or.inr (Or.inr rfl)) (hd1 : (x == ("__debug__" : Str)) = false := by decide)
    (hcd : (x == ("__classdict__" : Str)) = false := by decide) (hp : ∀ T, PE X e T → PE X (.Call (.Attribute (.Name x p1) "pop" apos) [e] [] cpos) (tBM X.K "list" rPopAt (tVar i) (tCons T tNil))) : EX X W (.Call (.Attribute (.Name x p1) "pop" apos) [e] [] cpos) (aPopAt i te) := by
  obtain ⟨T, p, r⟩ := he.ex
  refine ⟨_, hp T p, fun P G F ρ σ H Q Z Q' R ⟨h0, h⟩ hz hq => ?_⟩
  obtain ⟨b, xs, e0⟩ := h0.ex
  obtain ⟨a, vs, g1, g2, g3, g4, g5⟩ := R.own i b xs e0
  refine ⟨.ref a, g1, .inl ⟨rfl, _, .inl (.inl g2)⟩, r P G F ρ σ H _ Z _ R h hz fun G1 ρ1 H1 v d R1 s1 rv q => ?_⟩
  unfold kPopAt at q
  split at q
  · rename_i k b1 ys e1
    obtain ⟨j, z, hj, k1, k2, hz', q⟩ := q
    obtain ⟨a', us, m1, m2, m3, m4, m5⟩ := R1.own i b1 ys e1
    rw [g1] at m1
    cases m1
    obtain ⟨y, hy, ry⟩ := m5.get hz'
    rw [m5.length] at hj
    exact ⟨a, us, k, j, y, rfl, by rw [rp_int.mp rv], m2, k1, k2, (ixN_seq hj).1, hy, hq G1 _ _ y z (R1.write e1 g1 (m5.eraseIdx j)) s1 ry q⟩
  · exact q.elim
end
section
variable {ρ ρ1 : List Sv} {Q : KD} {QL : List D → List Sv → Prop} {QD : D → Prop} {Z : KX} {ta tb : AE} {x y : Str} {i j k : Int} {n : Nat} {aa : AA}
@[simp ↓] theorem q_bStrI : bStrI [.int i] QD = (i.natAbs.log2 < 1920 ∧ QD (.str (Str.ofString (toString i)))) := keep rfl
@[simp ↓] theorem q_oSplit : oSplit ta tb ρ QL Z = ta ρ (kSplit1 QL Z tb) Z := keep rfl
@[simp ↓] theorem q_kSplit1 : kSplit1 QL Z tb (.str x) ρ1 = tb ρ1 (kSplit2 QL (.str x)) Z := propext ⟨fun h => h.2, fun h => ⟨⟨x, rfl⟩, h⟩⟩
@[simp ↓] theorem q_kSplit2 : kSplit2 QL (.str x) (.str y) ρ1 = ((y.length == 0) = false ∧ x.length + 2 ≤ sizeLine ∧ QL ((Txt.split x y).map D.str) ρ1) := keep rfl
@[simp ↓] theorem q_aSix : aSix ta tb ρ Q Z = ta ρ (kSix1 Q Z tb) Z := keep rfl
@[simp ↓] theorem q_kSix1 : kSix1 Q Z tb (.str x) ρ1 = tb ρ1 (kSix2 Q (.str x)) Z := propext ⟨fun h => h.2, fun h => ⟨⟨x, rfl⟩, h⟩⟩
@[simp ↓] theorem q_kSix2 : kSix2 Q (.str x) (.str y) ρ1 = (∃ i rest, Builtin.Str.occurrences x y 0 x.length 1 = i :: rest ∧ Q (.int (i : Nat)) ρ1) := keep rfl
@[simp ↓] theorem q_aUpp : aUpp ta ρ Q Z = ta ρ (kUpp Q) Z := keep rfl
@[simp ↓] theorem q_kUpp : kUpp Q (.str x) ρ1 = (x.length ≤ 5592405 ∧ Q (.str (Txt.upper x)) ρ1) := keep rfl
@[simp ↓] theorem q_aPop : aPop n ρ Q Z = (match ρ[n]? with
  | some (.own b xs) => ∃ d, xs[xs.length - 1]? = some d ∧ Q d (ρ.set n (.own b xs.dropLast))
  | _ => False) := keep rfl
@[simp ↓] theorem q_aPopAt : aPopAt n ta ρ Q Z = (isOwn ρ n ∧ ta ρ (kPopAt Q n) Z) := keep rfl
@[simp ↓] theorem q_kPopAt : kPopAt Q n (.int k) ρ1 = (match ρ1[n]? with
  | some (.own b xs) => ∃ j d, ixN xs.length k = some j ∧ -(2 ^ 63) ≤ k ∧ k < 2 ^ 63 ∧ xs[j]? = some d ∧ Q d (ρ1.set n (.own b (xs.eraseIdx j)))
  | _ => False) := by
  unfold kPopAt
  rcases ρ1[n]? with _ | (_ | _ | ⟨_, _⟩) <;> rfl
end
/-! ### targets within targets -/
theorem gms_nil : ∀ ds ρ Q, agNil ds ρ Q → ∃ ρ1, Q ρ1 := fun ds ρ Q h => ⟨_, h.2⟩
theorem gms_cons {t : AG} {u : AGs} (h1 : ∀ d ρ Q, t d ρ Q → ∃ ρ1, Q ρ1) (h2 : ∀ ds ρ Q, u ds ρ Q → ∃ ρ1, Q ρ1) : ∀ ds ρ Q, agCons t u ds ρ Q → ∃ ρ1, Q ρ1 := fun ds ρ Q h => by
  cases ds with
  | nil => exact h.elim
  | cons d r =>
    obtain ⟨ρ1, q⟩ := h1 _ _ _ h
    exact h2 _ _ _ q
theorem gm_tup {u : AGs} (h2 : ∀ ds ρ Q, u ds ρ Q → ∃ ρ1, Q ρ1) : ∀ d ρ Q, agTup u d ρ Q → ∃ ρ1, Q ρ1 := fun d ρ Q h => by
  cases d <;> first | exact h.elim | exact h2 _ _ _ h
/-! ### a tuple of texts that the module keeps -/
theorem glc_tup {K : PySem.W.Frag} {mg : Str → Option Value} {x : Str} {a : Addr} {xs : List Str} {its : Array Value} {dx : Option Addr} {n : Nat} {sl : Array (Option Value)} (hm : mg x = some (.ref a)) (hl : K.lookup a = some ⟨.type "tuple", dx, .seq its n, sl⟩) (hv : Vals (xs.map V.str) its.toList) (hs : its.size ≤ sizeLine) : GlC K mg x (.tup (xs.map D.str)) :=
  ⟨.ref a, .ref a, hm, rfl, fun G => rp_tup.mpr ⟨a, _, rfl, .inr ⟨_, its, n, hl, rfl, rfl, hs, hv⟩, RpL.strs xs⟩⟩
end VS
/-! VSC: enumerate(a text). -/
namespace L2
open PySem PySem.Spec PyProof.Rows
def ItEs (x : Str) : It :=
  ⟨fun i _ => i < x.cps.size, fun i H v H' => ∃ T c, v = .ref T ∧ H T = none ∧ H' = upd H T (.tup [.int (i : Nat), .str ⟨#[c]⟩]) ∧ x.cps[i]? = some c, fun i _ => x.cps.size ≤ i⟩
theorem drawsS {prog : Program} {w : World} {A : Around} (hh : A.handled = none) (it : Addr) (x : Str) (t : Tok) : Draws prog w A it [it] x.cps.size (fun i v => ∃ c u, x.cps[i]? = some c ∧ v = .str ⟨#[c]⟩ u) (fun i h => h.IsStrIter it (strIterType x) x t i) := by
  unfold strIterType
  split
  · exact Draws.strAscii hh it x t
  · exact Draws.strWide hh it x t
theorem endS {prog : Program} {w : World} {A : Around} (hh : A.handled = none) (it : Addr) (x : Str) (t : Tok) {i : Nat} (hx : x.cps[i]? = none) : Draws prog w A it [it] 0 (fun _ _ => False) (fun _ h => h.IsStrIter it (strIterType x) x t i) where
  live := fun _ _ st => let ⟨o, ho, _⟩ := st; ⟨o, ho⟩
  frame := fun _ _ _ st hk => let ⟨o, ho, r⟩ := st; ⟨o, hk it (by simp) o ho, r⟩
  item := fun j s Q E hi _ _ => absurd hi (Nat.not_lt_zero _)
  done := fun s Q E st hE => by
    unfold strIterType at st
    split at st
    · exact wpAny_nextOf_ascii_end hh st hx hE
    · exact wpAny_nextOf_wide_end hh st hx hE
theorem turn_enumS {P : Program} {w : World} {K : PySem.W.Frag} {elts : List Expr} {kk : Nat} {tpos : Pos} (x : Str) (t : Tok) (e it : Addr) :
    Turn P w K (.Tuple elts kk tpos) (ItEs x) [e, it] e (fun i h => (∃ old, IsEnum h e it ((i : Nat) : Int) old) ∧ h.IsStrIter it (strIterType x) x t i ∧ e ≠ it) where
  mem := by simp
  obj := fun i h st b hb => by
    obtain ⟨⟨old, he⟩, ⟨o, ho, hc, hd⟩, _⟩ := st
    have e' : b = e ∨ b = it := by simpa using hb
    rcases e' with z | z
    · rw [z]; exact ⟨_, he, fun v q => nomatch q⟩
    · rw [z]; exact ⟨o, ho, fun v q => by rw [hd] at q; cases q⟩
  keep := fun i h h' st k => by
    obtain ⟨⟨old, he⟩, ⟨o, ho, r⟩, hne⟩ := st
    exact ⟨⟨old, k e (by simp) _ he⟩, ⟨o, k it (by simp) o ho, r⟩, hne⟩
  item := by
    intro X hP hw hK hc i pins s σ H E I hf st hg
    subst hP hw hK
    obtain ⟨⟨old, he⟩, hit, hne⟩ := st
    have hel : e < s.heap.objs.size := Heap.lt_size he
    have hil : it < s.heap.objs.size := by obtain ⟨_, q, _⟩ := hit; exact Heap.lt_size q
    refine wpAny_pyNext_enum_itemD (drawsS (A := X.A.in1) (I.ok.hd hc) it x t) he hit hg hne (by simpa using hne) fun y h' tk hy ho hit' hT hsz hk => ?_
    obtain ⟨c, u, hcx, rfl⟩ := hy
    refine ⟨_, rfl, wpAny_letOwnedTupleGo_enum (s := { s with heap := h', toks := tk + 1 }) ho fun h'' he' sb => ?_⟩
    have hT2 : h''.get? s.heap.objs.size = some { cls := .type "tuple", data := .seq #[.int i tk, .str ⟨#[c]⟩ u] } := (sb.2 _ (Nat.ne_of_gt hel)).trans hT
    have new : ObjOk X.prog X.w (upd H s.heap.objs.size (.tup [.int (i : Nat), .str ⟨#[c]⟩])) h'' s.heap.objs.size (.tup [.int (i : Nat), .str ⟨#[c]⟩]) :=
      ⟨by show 2 ≤ sizeLine; decide, [.int i tk, .str ⟨#[c]⟩ u], .cons ⟨_, rfl⟩ (.cons ⟨_, rfl⟩ .nil), ⟨_, hT2, rfl, _, rfl⟩⟩
    have I1 : Inv X pins σ (upd H s.heap.objs.size (.tup [.int (i : Nat), .str ⟨#[c]⟩])) { s with heap := h'', toks := tk + 1 } :=
      I.turnedNew (ch := [e, it]) (fun b ob hb q => (sb.2 b (fun z => hb (by simp [z]))).trans (hk b ob (fun z => hb (by simp [z])) (fun z => hb (by simp [z])) q)) hf (Nat.le_refl _) new
    refine ⟨.ref s.heap.objs.size, _, I1, rfl, ⟨_, c, rfl, I.hok.fresh (Nat.le_refl _), rfl, hcx⟩, ⟨⟨.str ⟨#[c]⟩ u, ?_⟩, ?_, hne⟩, fun b hb => ?_⟩
    · have e1 : ((i + 1 : Nat) : Int) = (i : Int) + 1 := by omega
      rw [e1]; exact he'
    · obtain ⟨o, ho2, r⟩ := hit'
      exact ⟨o, (sb.2 it (Ne.symm hne)).trans ho2, r⟩
    · have hb' : b < s.heap.objs.size := by
        have e' : b = e ∨ b = it := by simpa using hb
        rcases e' with z | z
        · rw [z]; exact hel
        · rw [z]; exact hil
      rw [upd_ne (Nat.ne_of_lt hb')]
      exact (hf b hb).1
  done := by
    intro X hP hw hK hc i pins s σ H E I hf st hg
    subst hP hw hK
    obtain ⟨⟨old, he⟩, hit, hne⟩ := st
    obtain ⟨f0, f1, f2, f3, f4, f5⟩ := hf it (by simp)
    have hx : x.cps[i]? = none := Array.getElem?_eq_none hg
    exact wpAny_pyNext_enum_endD (endS (A := X.A.in1) (I.ok.hd hc) it x t hx) he hit fun h' eb => ⟨rfl, I.turned (t' := s.toks) (fun b o hb q => eb b o (fun z => hb (by simp [z])) q) f0 f1 f3 f4 f5⟩
  self := fun A i s Q E st h => let ⟨⟨_, he⟩, _⟩ := st; wpAny_pyIter_enum he h
theorem pi_enumA {X : Cx} {e : Expr} {ta : TA} {p pos tpos : Pos} {elts : List Expr} {kk : Nat} (hg : Gl X "enumerate") (hm : X.mg "enumerate" = none) (ha : PA X [e] ta) (hs : starEach [e] X.env = [(false, eval e X.env)] := by rfl) :
    PI X (.Tuple elts kk tpos) (.Call (.Name "enumerate" p) [e] [] pos) (fun σ H R => ta σ H fun vs H1 => (∃ a xs, vs = [.ref a] ∧ SqL X.K H1 a xs ∧ R (Ite X.K a) H1) ∨ ∃ x, vs = [.str x] ∧ R (ItEs x) H1) := by
  refine ⟨fun pins s σ H R I h => ?_⟩
  refine Call_ (ld_blt I hg hm boot_enumerate (PyProof.Rows.callWith_type1 (thn (ha.run pos pins s σ H _ I h) fun us s1 ⟨vs, H1, I1, r1, q1⟩ => ?_) hs rfl))
  have fps : ∀ b ∈ [s1.heap.objs.size + 1, s1.heap.objs.size], FpOk X pins H1 b := fun b hb => by
    have e' : b = s1.heap.objs.size + 1 ∨ b = s1.heap.objs.size := by simpa using hb
    have hle : s1.heap.objs.size ≤ b := by
      rcases e' with z | z
      · rw [z]; exact Nat.le_add_right _ _
      · rw [z]; exact Nat.le_refl _
    exact I1.fpOk hle (I1.hok.fresh hle)
  rcases q1 with ⟨a, xs, ex, hq, q⟩ | ⟨x, ex, q⟩
  · subst ex
    cases r1 with
    | cons r rr =>
      cases rr
      cases r
      obtain ⟨its, rv, p', hz⟩ := I1.list hq
      refine call_enumerate_list p'.isList fun h' he hit hsz hk => wpAny_pyIter_enum he ?_
      have I2 : Inv X pins σ H1 { s1 with heap := h' } := I1.kept (t' := s1.toks) hk
      exact ⟨s1.heap.objs.size + 1, [s1.heap.objs.size + 1, s1.heap.objs.size], _, _, H1, rfl, I2, turn_enum a (s1.heap.objs.size + 1) s1.heap.objs.size, ⟨⟨.none, he⟩, hit, Nat.succ_ne_self _⟩, fps, q⟩
  · subst ex
    cases r1 with
    | cons r rr =>
      cases rr
      obtain ⟨t, rfl⟩ := r
      refine call_enumerate_str fun h' he hit hsz hk => wpAny_pyIter_enum he ?_
      have I2 : Inv X pins σ H1 { s1 with heap := h' } := I1.kept (t' := s1.toks) hk
      exact ⟨s1.heap.objs.size + 1, [s1.heap.objs.size + 1, s1.heap.objs.size], _, _, H1, rfl, I2, turn_enumS x t (s1.heap.objs.size + 1) s1.heap.objs.size, ⟨⟨.none, he⟩, hit, Nat.succ_ne_self _⟩, fps, q⟩
end L2
namespace VS
open PySem PySem.Spec PyProof.Rows L2
/-- enumerate(x), x a list or a text -/
def kEnumA (QL : List D → List Sv → Prop) : List D → List Sv → Prop := fun ds ρ1 => match ds with
  | [.lst xs] => QL (enumD xs) ρ1
  | [.str x] => QL (enumD (signsD x)) ρ1
  | _ => False
def iEnumA (t : AA) : AI := fun ρ Q Z => t ρ (kEnumA Q) Z
theorem walk_enumS {K : PySem.W.Frag} {G : Hp} {x : Str} : Walk K G (ItEs x) (enumD (signsD x)) := by
  have hl : (enumD (signsD x)).length = x.cps.size := by rw [enumD_len]; simp [signsD]
  refine ⟨fun i H s hi => by rw [hl] at hi; exact hi, fun i H s hi => by rw [hl] at hi; exact hi, fun i G1 H H' v d s1 s2 e ⟨T, c, h1, h2, h3, h4⟩ => ?_⟩
  subst h1 h3
  have g := Grow.new (o := .tup [.int (i : Nat), .str ⟨#[c]⟩]) s2 h2
  refine ⟨_, g, ?_⟩
  have ed : d = .tup [.int (i : Nat), .str ⟨#[c]⟩] := by
    unfold enumD at e
    rw [List.getElem?_mapIdx] at e
    have e2 : (signsD x)[i]? = some (.str ⟨#[c]⟩) := by
      unfold signsD
      rw [List.getElem?_map, Array.getElem?_toList, h4]
      rfl
    rw [e2] at e
    exact (Option.some.inj e).symm
  subst ed
  exact rp_tup.mpr ⟨T, _, rfl, SqT.of upd_same, RpL.cons (rp_i _) (RpL.cons (rp_s _) RpL.nil)⟩
theorem i_enumA {X : Cx} {W : WX} {e : Expr} {p pos tpos : Pos} {elts : List Expr} {kk : Nat} {t : AA} (hg : Gl X "enumerate") (hm : X.mg "enumerate" = none) (ha : EXs X W [e] t) (hs : starEach [e] X.env = [(false, eval e X.env)] := by rfl) : IX X W (.Tuple elts kk tpos) (.Call (.Name "enumerate" p) [e] [] pos) (iEnumA t) := by
  obtain ⟨T, pT, r⟩ := ha.ex
  refine ⟨_, pi_enumA hg hm pT hs, fun P G F ρ σ H Q Z R' R h hz hq => ?_⟩
  refine r P G F ρ σ H _ Z _ R h hz fun G1 ρ1 H1 vs ds R1 s1 rs q => ?_
  unfold kEnumA at q
  split at q
  · obtain ⟨v, rfl, rv⟩ := rpl1 rs
    obtain ⟨a, us, rfl, h2, h3⟩ := rp_lst.mp rv
    exact .inl ⟨a, us, rfl, R1.sg.seq h2, hq G1 ρ1 H1 _ _ R1 s1 (walk_enum h2 h3) q⟩
  · obtain ⟨v, rfl, rv⟩ := rpl1 rs
    exact .inr ⟨_, by rw [rp_str.mp rv], hq G1 ρ1 H1 _ _ R1 s1 walk_enumS q⟩
  · exact q.elim
section
variable {ρ ρ1 : List Sv} {QL : List D → List Sv → Prop} {Z : KX} {aa : AA} {xs : List D} {x : Str}
@[simp ↓] theorem q_iEnumA : iEnumA aa ρ QL Z = aa ρ (kEnumA QL) Z := keep rfl
@[simp ↓] theorem q_kEnumA1 : kEnumA QL [.lst xs] ρ1 = QL (enumD xs) ρ1 := keep rfl
@[simp ↓] theorem q_kEnumA2 : kEnumA QL [.str x] ρ1 = QL (enumD (signsD x)) ρ1 := keep rfl
end
end VS
/-! VSD: any part of a tuple; zip of two tuples. -/
namespace VS
open PySem PySem.Spec PyProof.Rows L2
section
variable {X : Cx} {W : WX} {a : Expr} {pos p2 : Pos}
def kSlA3 (Q : KD) (d : D) (l : Option Int) : Option Int → List Sv → Prop := fun u ρ3 => match d with
  | .str x => x.length ≤ sizeLine ∧ Q (.str (cutS x l u)) ρ3
  | .lst xs => Q (.lst (cutD xs l u)) ρ3
  | .tup xs => Q (.tup (cutD xs l u)) ρ3
  | _ => False
def kSlA2 (Q : KD) (Z : KX) (th : AP) (d : D) : Option Int → List Sv → Prop := fun l ρ2 => th ρ2 (kSlA3 Q d l) Z
def kSlA1 (Q : KD) (Z : KX) (tl th : AP) : KD := fun d ρ1 => tl ρ1 (kSlA2 Q Z th d) Z
def aSlA (te : AE) (tl th : AP) : AE := fun ρ Q Z => te ρ (kSlA1 Q Z tl th) Z
theorem cutD_full {xs : List D} {l u : Option Int} (h : HT.sIx xs.length 0 l = 0 ∧ HT.sIx xs.length xs.length u = xs.length) : cutD xs l u = xs := by
  unfold cutD
  rw [h.1, h.2]
  simp
theorem e_sliceA {lo hi : Option Expr} {te : AE} {tl th : AP} (he : EX X W a te) (hl : PX X W lo tl) (hu : PX X W hi th) : EX X W (.Subscript a (.Slice lo hi none p2) pos) (aSlA te tl th) := by
  obtain ⟨T, p, r⟩ := he.ex
  obtain ⟨T1, p1, r1⟩ := hl.ex
  obtain ⟨T2, p2, r2⟩ := hu.ex
  refine ⟨_, pe_slice (SlR.or sl_list (SlR.or sl_tupA sl_str)) p p1 p2, fun P G F ρ σ H Q Z Q' R h hz hq => ?_⟩
  refine r P G F ρ σ H _ Z _ R h hz fun G1 ρ1 H1 v d R1 s1 rv q1 => ?_
  refine r1 P G1 F ρ1 σ H1 _ Z _ R1 q1 (hz.mono s1) fun G2 ρ2 H2 l R2 s2 q2 => ?_
  refine r2 P G2 F ρ2 σ H2 _ Z _ R2 q2 (hz.mono (s1.trans s2)) fun G3 ρ3 H3 u R3 s3 q3 => ?_
  have rv := rv.mono (s2.trans s3)
  have s' := (s1.trans s2).trans s3
  cases d <;> first | exact q3.elim | skip
  · exact .inr (.inr ⟨_, rp_str.mp rv, q3.1, hq G3 ρ3 H3 _ _ R3 s' (rp_s _) q3.2⟩)
  · obtain ⟨b, vs, rfl, g2, g3⟩ := rp_lst.mp rv
    refine .inl ⟨b, vs, rfl, R3.sg.seq g2, fun p hp => ?_⟩
    have g := Grow.new (o := .lst (cutV vs l u)) R3.sg hp
    exact hq _ ρ3 _ _ _ (R3.grow g) (s'.trans g.j) (rp_lst.mpr ⟨p, _, rfl, SqL.of upd_same, (cut_rpl g3 l u).mono g.j⟩) q3
  · obtain ⟨b, vs, rfl, g2, g3⟩ := rp_tup.mp rv
    refine .inr (.inl ⟨b, vs, rfl, Same.seqT R3.sg g2, fun hf => ?_, fun _ p hp => ?_⟩)
    · rw [← g3.length] at hf
      have q4 : Q (.tup (cutD _ l u)) ρ3 := q3
      rw [cutD_full hf] at q4
      exact hq G3 ρ3 H3 _ _ R3 s' (rp_tup.mpr ⟨b, vs, rfl, g2, g3⟩) q4
    · have g := Grow.new (o := .tup (cutV vs l u)) R3.sg hp
      exact hq _ ρ3 _ _ _ (R3.grow g) (s'.trans g.j) (rp_tup.mpr ⟨p, _, rfl, SqT.of upd_same, (cut_rpl g3 l u).mono g.j⟩) q3
theorem walk_zipT {K : PySem.W.Frag} {G : Hp} {a b : Addr} {xs ys : List D} {vs us : List V} (h2 : SqT K G a vs) (h3 : RpL K G xs vs) (g2 : SqT K G b us) (g3 : RpL K G ys us) : Walk K G (RZ.ItzT K a b) (zipD xs ys) := by
  have hl : (zipD xs ys).length = min xs.length ys.length := by simp [zipD]
  refine ⟨fun i H s hi => ?_, fun i H s hi => ⟨vs, us, Same.seqT s h2, Same.seqT s g2, by rw [← h3.length, ← g3.length]; rw [hl] at hi; omega⟩, fun i G1 H H' x d s1 s2 e ⟨T, y, z, ex, hT, eH, hy, hz⟩ => ?_⟩
  · rw [hl] at hi
    obtain ⟨v, e, _⟩ := h3.get (List.getElem?_eq_getElem (show i < xs.length by omega))
    obtain ⟨u, e', _⟩ := g3.get (List.getElem?_eq_getElem (show i < ys.length by omega))
    exact ⟨vs, us, v, u, Same.seqT s h2, Same.seqT s g2, e, e'⟩
  · subst ex eH
    unfold zipD at e
    rw [List.getElem?_zipWith] at e
    cases q : xs[i]? with
    | none => rw [q] at e; cases e
    | some d0 =>
      cases q' : ys[i]? with
      | none => rw [q, q'] at e; cases e
      | some d1 =>
        rw [q, q'] at e
        cases e
        obtain ⟨v, e2, rv⟩ := h3.get q
        obtain ⟨u, e3, ru⟩ := g3.get q'
        have q2 := hy vs (Same.seqT (s1.trans s2) h2)
        rw [e2] at q2
        have ev : v = y := Option.some.inj q2
        have q3 := hz us (Same.seqT (s1.trans s2) g2)
        rw [e3] at q3
        have eu : u = z := Option.some.inj q3
        rw [ev] at rv
        rw [eu] at ru
        have g := Grow.new (o := .tup [y, z]) s2 hT
        exact ⟨_, g, rp_tup.mpr ⟨T, _, rfl, SqT.of upd_same, RpL.cons (rv.mono (s1.trans g.j)) (RpL.cons (ru.mono (s1.trans g.j)) RpL.nil)⟩⟩
/-- zip of two lists or two tuples -/
def kZipB (QL : List D → List Sv → Prop) : List D → List Sv → Prop := fun ds ρ1 => match ds with
  | [.lst xs, .lst ys] => QL (zipD xs ys) ρ1
  | [.tup xs, .tup ys] => QL (zipD xs ys) ρ1
  | _ => False
def iZipB (t : AA) : AI := fun ρ Q Z => t ρ (kZipB Q) Z
theorem i_zipB {p pos tpos : Pos} {elts : List Expr} {kk : Nat} {e e2 : Expr} {t : AA} (hg : Gl X "zip") (hm : X.mg "zip" = none) (ha : EXs X W [e, e2] t) (hp : ∀ T, PA X [e, e2] T → PI X (.Tuple elts kk tpos) (.Call (.Name "zip" p) [e, e2] [] pos) (RZ.iZipA X.K T)) : IX X W (.Tuple elts kk tpos) (.Call (.Name "zip" p) [e, e2] [] pos) (iZipB t) := by
  obtain ⟨T, p, r⟩ := ha.ex
  refine ⟨_, hp T p, fun P G F ρ σ H Q Z R' R h hz hq => ?_⟩
  refine r P G F ρ σ H _ Z _ R h hz fun G1 ρ1 H1 vs ds R1 s1 rs q => ?_
  unfold kZipB at q
  split at q
  · obtain ⟨v, u, rfl, rv, ru⟩ := rpl2 rs
    obtain ⟨a, us, rfl, h2, h3⟩ := rp_lst.mp rv
    obtain ⟨b, ws, rfl, g2, g3⟩ := rp_lst.mp ru
    exact ⟨a, b, us, ws, rfl, .inl ⟨R1.sg.seq h2, R1.sg.seq g2, hq G1 ρ1 H1 _ _ R1 s1 (walk_zip h2 h3 g2 g3) q⟩⟩
  · obtain ⟨v, u, rfl, rv, ru⟩ := rpl2 rs
    obtain ⟨a, us, rfl, h2, h3⟩ := rp_tup.mp rv
    obtain ⟨b, ws, rfl, g2, g3⟩ := rp_tup.mp ru
    exact ⟨a, b, us, ws, rfl, .inr ⟨Same.seqT R1.sg h2, Same.seqT R1.sg g2, hq G1 ρ1 H1 _ _ R1 s1 (walk_zipT h2 h3 g2 g3) q⟩⟩
  · exact q.elim
end
section
variable {ρ ρ1 : List Sv} {Q : KD} {QL : List D → List Sv → Prop} {Z : KX} {ta : AE} {tl th : AP} {l u : Option Int} {xs ys : List D} {s : Str} {d : D} {aa : AA}
@[simp ↓] theorem q_aSlA : aSlA ta tl th ρ Q Z = ta ρ (kSlA1 Q Z tl th) Z := keep rfl
@[simp ↓] theorem q_kSlA1 : kSlA1 Q Z tl th d ρ1 = tl ρ1 (kSlA2 Q Z th d) Z := keep rfl
@[simp ↓] theorem q_kSlA2 : kSlA2 Q Z th d l ρ1 = th ρ1 (kSlA3 Q d l) Z := keep rfl
@[simp ↓] theorem q_kSlA3s : kSlA3 Q (.str s) l u ρ1 = (s.length ≤ sizeLine ∧ Q (.str (cutS s l u)) ρ1) := keep rfl
@[simp ↓] theorem q_kSlA3l : kSlA3 Q (.lst xs) l u ρ1 = Q (.lst (cutD xs l u)) ρ1 := keep rfl
@[simp ↓] theorem q_kSlA3t : kSlA3 Q (.tup xs) l u ρ1 = Q (.tup (cutD xs l u)) ρ1 := keep rfl
@[simp ↓] theorem q_iZipB : iZipB aa ρ QL Z = aa ρ (kZipB QL) Z := keep rfl
@[simp ↓] theorem q_kZipB1 : kZipB QL [.lst xs, .lst ys] ρ1 = QL (zipD xs ys) ρ1 := keep rfl
@[simp ↓] theorem q_kZipB2 : kZipB QL [.tup xs, .tup ys] ρ1 = QL (zipD xs ys) ρ1 := keep rfl
end
end VS
/-! VSE: int(text). -/
namespace VS
open PySem PySem.Spec PyProof.Rows L2
def bIntS : List D → (D → Prop) → Prop
  | [.str a], Q => ∃ n, PySem.intText? a = some n ∧ a.length ≤ 640 ∧ Q (.int n)
  | _, _ => False
@[simp ↓] theorem q_bIntS {x : Str} {Q : D → Prop} : bIntS [.str x] Q = (∃ n, PySem.intText? x = some n ∧ x.length ≤ 640 ∧ Q (.int n)) := keep rfl
end VS
/-! VSF: a call whose one argument is a list just made, lent for the call. -/
namespace VS
open PySem PySem.Spec PyProof.Rows L2
theorem snoc_at {α : Type} {l : List α} {x s : α} {i : Nat} (h : (l ++ [x])[i]? = some s) : l[i]? = some s ∨ (i = l.length ∧ s = x) := by
  rw [List.getElem?_append] at h
  split at h
  · exact .inl h
  · rename_i hi
    rw [List.getElem?_singleton] at h
    split at h
    · exact .inr ⟨by omega, (Option.some.inj h).symm⟩
    · cases h
theorem at_snoc {α : Type} {l : List α} {x s : α} {i : Nat} (h : l[i]? = some s) : (l ++ [x])[i]? = some s := by
  rw [List.getElem?_append_left (List.getElem?_eq_some_iff.mp h).1]
  exact h
theorem at_end {α : Type} {l : List α} {x : α} : (l ++ [x])[l.length]? = some x := by simp
section
variable {K : PySem.W.Frag} {P : List (Nat × Addr)} {G F : Hp} {ρ : List Sv} {σ : St} {H : Hp}
theorem Rel.push (R : Rel K P G F ρ σ H) {a : Addr} {us : List V} {xs : List D} (h1 : H a = some (.lst us)) (h2 : G a = none) (h3 : F a = none) (h4 : NoS ρ σ a) (h5 : RpL K G xs us) :
    Rel K P G F (ρ ++ [.own false xs]) (σ ++ [some (.ref a)]) H := by
  have hl := R.len
  have last : ∀ {i : Nat}, i = ρ.length → (σ ++ [some (.ref a)])[i]? = some (some (.ref a)) := fun {i} e => by rw [e, hl]; exact at_end
  have tre : ∀ {i : Nat} {t : Tr}, (ρ ++ [Sv.own false xs])[i]? = some (.tre t) → ρ[i]? = some (.tre t) := fun {i t} e => by
    rcases snoc_at e with e | ⟨-, e⟩
    · exact e
    · cases e
  have slot : ∀ {i : Nat} {b : Bool} {ys : List D} {c : Addr}, ρ[i]? = some (.own b ys) → (σ ++ [some (.ref a)])[i]? = some (some (.ref c)) → σ[i]? = some (some (.ref c)) := fun {i b ys c} e1 e2 => by
    have hi : i < σ.length := by rw [← hl]; exact (List.getElem?_eq_some_iff.mp e1).1
    rw [List.getElem?_append_left hi] at e2
    exact e2
  refine ⟨by simp [hl], R.sg, R.sf, R.gf, fun i d e => ?_, fun i b ys e => ?_, fun i j c b ys b' zs e1 e2 e3 e4 => ?_, fun p hp => ?_, fun i ys e => ?_, R.tr.step (fun i t e => ?_) (Same.refl _) (fun i t b e hb => ?_) fun j c ys b i t e1 e2 e3 => ?_⟩
  · rcases snoc_at e with e | ⟨-, e⟩
    · obtain ⟨v, g1, g2⟩ := R.dat i d e
      exact ⟨v, at_snoc g1, g2⟩
    · cases e
  · rcases snoc_at e with e | ⟨ei, e⟩
    · obtain ⟨c, vs, g1, g2⟩ := R.own i b ys e
      exact ⟨c, vs, at_snoc g1, g2⟩
    · cases e
      exact ⟨a, us, last ei, h1, h2, h3, h5⟩
  · rcases snoc_at e1 with e1 | ⟨i1, e1⟩
    · rcases snoc_at e2 with e2 | ⟨i2, e2⟩
      · exact R.ne i j c b ys b' zs e1 e2 (slot e1 e3) (slot e2 e4)
      · rw [last i2] at e4
        cases e4
        exact absurd (slot e1 e3) (h4.own i b ys e1)
    · rcases snoc_at e2 with e2 | ⟨i2, e2⟩
      · rw [last i1] at e3
        cases e3
        exact absurd (slot e2 e4) (h4.own j b' zs e2)
      · rw [i1, i2]
  · obtain ⟨g1, ys, g2⟩ := R.pin p hp
    exact ⟨at_snoc g1, ys, at_snoc g2⟩
  · rcases snoc_at e with e | ⟨-, e⟩
    · exact R.pinc i ys e
    · cases e
  · have e := tre e
    obtain ⟨v, g1, _⟩ := R.tr.got i t e
    exact ⟨e, by rw [at_snoc g1, g1]⟩
  · obtain ⟨_, g2, g3⟩ := R.tr.ex (tre e) hb
    exact ⟨rfl, g2, g3⟩
  · rcases snoc_at e1 with e1 | ⟨ei, e1⟩
    · exact R.tr.own i t j c ys b (tre e3) e1 (slot e1 e2)
    · rw [last ei] at e2
      cases e2
      exact h4.tre i t (tre e3)
end
end VS
/-! VSG: xs[::-1] of a list. -/
/-! VSH: a list (as data) times a number. -/
namespace VS
open PySem PySem.Spec PyProof.Rows L2
section
variable {X : Cx} {K : PySem.W.Frag}
/-- a * b: numbers; a text or a list times a number -/
def bMulC : D → D → (D → Prop) → Prop
  | .lst xs, .int k, Q => -(2 ^ 63) ≤ k ∧ k < 2 ^ 63 ∧ xs.length * k.toNat ≤ sizeLine ∧ Q (.lst (List.replicate k.toNat xs).flatten)
  | d, e, Q => bMulB d e Q
end
section
variable {QV : D → Prop} {xs : List D} {i j : Int} {x : Str}
@[simp ↓] theorem q_bMulC1 : bMulC (.lst xs) (.int j) QV = (-(2 ^ 63) ≤ j ∧ j < 2 ^ 63 ∧ xs.length * j.toNat ≤ sizeLine ∧ QV (.lst (List.replicate j.toNat xs).flatten)) := keep rfl
@[simp ↓] theorem q_bMulC2 : bMulC (.int i) (.int j) QV = (CMulA i j ∧ QV (.int (i * j))) := keep rfl
end
end VS
/-! VSI: calls within an except suite. -/
namespace VS
open PySem PySem.Spec PyProof.Rows L2
/-! ### the handled exception, as the layer has it -/
structure HotH (A : Around) (H : Hp) : Prop where
  ex : ∃ (x : Addr) (oe : Obj) (vs : Array Value), A.handled = some (.ref x) ∧ H x = some (xo x oe) ∧ oe.data = .fields vs ∧ vs[2]? = some .none
theorem HotH.mono {A : Around} {H H' : Hp} (h : HotH A H) (s : Same H H') : HotH A H' := by
  obtain ⟨x, oe, vs, h1, h2, h3, h4⟩ := h.ex
  exact ⟨x, oe, vs, h1, s _ _ h2, h3, h4⟩
theorem HotH.at {A : Around} {H : Hp} {P : Program} {w : World} {h : Heap} (k : HotH A H) (ok : HOk P w H h) : ∃ x, HotX.HotAt A x h := by
  obtain ⟨x, oe, vs, h1, h2, h3, h4⟩ := k.ex
  exact ⟨x, h1, oe, vs, xo_at ok h2, h3, h4⟩
/-! ### a def that may be called while an exception is handled -/
theorem RoomH.units {k : Nat} {A : Around} (r : L2H.RoomH k A) : A.units + 64 < cLine := by have := r.un; omega
/-- where a def may be called while an exception is handled -/
structure RunH (k : Nat) (X : Cx) : Prop where
  hr : L2H.RoomH k X.A
  hg : X.A.guards = some []
theorem RunH.mono {j k : Nat} {X : Cx} (r : RunH k X) (h : j ≤ k) : RunH j X := ⟨r.hr.mono h, r.hg⟩
theorem Run.suite {k : Nat} {X : Cx} (r : Run k X) (a : Addr) (pn : List (Addr × Obj)) : RunH k (X.suite a pn) := ⟨⟨r.hr.dp, r.hr.un⟩, r.hg⟩
/-! ### try: .. except x as n: a suite that calls -/
end VS
/-! VSJ: a def that gives a tuple of a list of its own and data; its list taken out. -/
namespace VS
open PySem PySem.Spec PyProof.Rows L2
/-- return (x, e), x a list of its own -/
def kRetPr (D : AEnds) (i : Nat) : KD := fun d ρ1 => match ρ1[i]? with
  | some (.own false xs) => D.rt (.pr xs d) (ρ1.set i .un)
  | _ => False
def sRetPr (i : Nat) (te : AE) : AS := fun D ρ => isOwn ρ i ∧ te ρ (kRetPr D i) D.xx
/-- f(..)[0] where f gives such a tuple -/
def kDefPr2 (QL : List D → List Sv → Prop) (ρ : List Sv) (as : List Ar) : Sv → List Sv → Prop := fun r ρp => match r with
  | .pr xs _ => QL xs (put ρ as ρp)
  | _ => False
def kDefPr1 (Z : KX) (QL : List D → List Sv → Prop) (c : Ctr) (dds : List D) : List Ar → List Sv → Prop := fun as ρ1 => lendOk ρ1 as ∧ c ((as.map (res ρ1)) ++ dds.map .dat) (kDefPr2 QL ρ1 as) (kDefX ρ1 Z as)
def oDefPr (c : Ctr) (dds : List D) (t : AAr) : AO := fun ρ Q Z => t ρ (kDefPr1 Z Q c dds) Z
section
variable {te : AE} {ρ ρ1 ρp : List Sv} {QL : List D → List Sv → Prop} {Z : KX} {xs : List D} {d : D} {t : AAr} {c : Ctr} {dds : List D} {as : List Ar} {i : Nat} {E : AEnds}
@[simp ↓] theorem q_sRetPr : sRetPr i te E ρ = (isOwn ρ i ∧ te ρ (kRetPr E i) E.xx) := rfl
@[simp ↓] theorem q_kRetPr : kRetPr E i d ρ1 = (match ρ1[i]? with
  | some (.own false xs) => E.rt (.pr xs d) (ρ1.set i .un)
  | _ => False) := by
  unfold kRetPr
  rcases ρ1[i]? with _ | (_ | _ | ⟨_ | _, _⟩ | ⟨_, _⟩) <;> rfl
@[simp ↓] theorem q_oDefPr : oDefPr c dds t ρ QL Z = t ρ (kDefPr1 Z QL c dds) Z := rfl
@[simp ↓] theorem q_kDefPr1 : kDefPr1 Z QL c dds as ρ1 = (lendOk ρ1 as ∧ c ((as.map (res ρ1)) ++ dds.map .dat) (kDefPr2 QL ρ1 as) (kDefX ρ1 Z as)) := rfl
@[simp ↓] theorem q_kDefPr2 : kDefPr2 QL ρ as (.pr xs d) ρp = QL xs (put ρ as ρp) := rfl
end
end VS
/-! VSK: exceptions made as values. -/
namespace VS
open PySem PySem.Spec PyProof.Rows L2
def aExc0 (c : Str) : AE := fun ρ Q Z => Q (excD ⟨c, none⟩) ρ
def kExc1 (Q : KD) (c f : Str) : KD := fun y ρ1 => Q (excD ⟨c, some (f, y)⟩) ρ1
def aExc1 (c f : Str) (t : AE) : AE := fun ρ Q Z => t ρ (kExc1 Q c f) Z
section
variable {ρ ρ1 : List Sv} {Q : KD} {Z : KX} {c f : Str} {te : AE} {y : VS.D}
@[simp ↓] theorem q_aExc0 : aExc0 c ρ Q Z = Q (excD ⟨c, none⟩) ρ := keep rfl
@[simp ↓] theorem q_aExc1 : aExc1 c f te ρ Q Z = te ρ (kExc1 Q c f) Z := keep rfl
@[simp ↓] theorem q_kExc1 : kExc1 Q c f y ρ1 = Q (excD ⟨c, some (f, y)⟩) ρ1 := keep rfl
end
end VS
/-! VSL: isinstance of an exception with several classes. -/
/-! VSM: sorted(list of ints). -/
namespace VS
open PySem PySem.Spec PyProof.Rows L2
def bSortI : List D → (D → Prop) → Prop
  | [.lst ds], Q => ∃ ns : List Int, ds = ns.map .int ∧ ns.length < 64 ∧ ∀ ns' : List Int, ns'.Perm ns → ns'.Pairwise (· ≤ ·) → Q (.lst (ns'.map .int))
  | _, _ => False
theorem rpl_ints_eq {K : PySem.W.Frag} {G : Hp} : ∀ {ns : List Int} {vs : List V}, RpL K G (ns.map .int) vs → vs = ns.map V.int
  | [], vs, h => by unfold RpL at h; exact h
  | n :: ns, vs, h => by
    rw [List.map_cons] at h
    unfold RpL at h
    obtain ⟨v, r, rfl, h1, h2⟩ := h
    rw [rp_int.mp h1, rpl_ints_eq h2]
    rfl
@[simp ↓] theorem q_bSortI {ds : List D} {Q : D → Prop} : bSortI [.lst ds] Q = (∃ ns : List Int, ds = ns.map .int ∧ ns.length < 64 ∧ ∀ ns' : List Int, ns'.Perm ns → ns'.Pairwise (· ≤ ·) → Q (.lst (ns'.map .int))) := keep rfl
end VS
/-! VSN: trees: a list of its own whose items may be tuples with lists of their own. -/
namespace VS
open PySem PySem.Spec PyProof.Rows L2
section
variable {K : PySem.W.Frag} {G G' H H' : Hp}
theorem footL_leaf : ∀ {xs : List D}, Tr.footL (xs.map .leaf) = []
  | [] => footL_nil
  | x :: xs => by rw [List.map_cons, footL_cons, foot_leaf, footL_leaf]; rfl
theorem stripL_map : ∀ {ts : List Tr}, Tr.stripL ts = ts.map Tr.strip
  | [] => by rw [Tr.stripL]; rfl
  | t :: ts => by rw [Tr.stripL, stripL_map]; rfl
theorem trt_lst {a : Addr} {ts : List Tr} {v : V} (h : TR K G H (.lst a ts) v) : TRt K G H (.lst a ts) v := h
theorem trl_leaf : ∀ {xs : List D} {vs : List V}, TRL K G H (xs.map .leaf) vs ↔ RpL K G xs vs
  | [], vs => by rw [List.map_nil, trl_nil, rpl_nil]
  | x :: xs, vs => by
    rw [List.map_cons, trl_cons, rpl_cons]
    constructor
    · rintro ⟨v, r, h1, h2, h3⟩; exact ⟨v, r, h1, tr_leaf.mp h2, trl_leaf.mp h3⟩
    · rintro ⟨v, r, h1, h2, h3⟩; exact ⟨v, r, h1, tr_leaf.mpr h2, trl_leaf.mpr h3⟩
theorem TRL.append : ∀ {ts us : List Tr} {vs ws : List V}, TRL K G H ts vs → TRL K G H us ws → TRL K G H (ts ++ us) (vs ++ ws)
  | [], us, vs, ws, h, k => by rw [trl_nil.mp h]; exact k
  | t :: ts, us, vs, ws, h, k => by
    obtain ⟨v, r, rfl, h2, h3⟩ := trl_cons.mp h
    exact trl_cons.mpr ⟨v, r ++ ws, rfl, h2, TRL.append h3 k⟩
theorem TRL.length : ∀ {ts : List Tr} {vs : List V}, TRL K G H ts vs → ts.length = vs.length
  | [], vs, h => by rw [trl_nil.mp h]; rfl
  | t :: ts, vs, h => by
    obtain ⟨v, r, rfl, _, h3⟩ := trl_cons.mp h
    rw [List.length_cons, List.length_cons, TRL.length h3]
/-- one item of trees -/
theorem TRL.put : ∀ {ts : List Tr} {vs : List V} {n : Nat} {u : Tr}, TRL K G H ts vs → ts[n]? = some u → ∃ w, vs[n]? = some w ∧ TR K G H u w ∧ ∀ {G' H' : Hp} {u' : Tr}, Same G G' → (∀ a ∈ Tr.footL ts, a ∉ u.foot → H' a = H a) → (Tr.footL ts).Nodup → TR K G' H' u' w → TRL K G' H' (ts.set n u') vs
  | [], _, _, _, _, e => by simp at e
  | t :: ts, vs, 0, u, h, e => by
    obtain ⟨v, r, rfl, h2, h3⟩ := trl_cons.mp h
    have e' : t = u := Option.some.inj e
    subst e'
    refine ⟨v, rfl, h2, fun {G' H' u'} s hH nd k => ?_⟩
    rw [footL_cons] at nd hH
    have dj := (List.nodup_append.mp nd).2.2
    refine trl_cons.mpr ⟨v, r, rfl, k, TRL.mono s (fun a ha => hH a (List.mem_append_right _ ha) fun hb => dj a hb a ha rfl) h3⟩
  | t :: ts, vs, n + 1, u, h, e => by
    obtain ⟨v, r, rfl, h2, h3⟩ := trl_cons.mp h
    obtain ⟨w, k1, k2, k3⟩ := TRL.put (n := n) h3 e
    refine ⟨w, k1, k2, fun {G' H' u'} s hH nd k => ?_⟩
    rw [footL_cons] at nd hH
    have nd' := List.nodup_append.mp nd
    have mem : ∀ a ∈ u.foot, a ∈ Tr.footL ts := by
      clear k3 k2 k1 h3 h2 h hH nd nd'
      induction ts generalizing n with
      | nil => simp at e
      | cons x ts ih =>
        intro a ha
        rw [footL_cons]
        cases n with
        | zero => rw [show x = u from Option.some.inj e]; exact List.mem_append_left _ ha
        | succ n => exact List.mem_append_right _ (ih (n := n) e a ha)
    refine trl_cons.mpr ⟨v, r, rfl, TR.mono s (fun a ha => hH a (List.mem_append_left _ ha) fun hb => nd'.2.2 a ha a (mem a hb) rfl) h2, k3 s (fun a ha hb => hH a (List.mem_append_right _ ha) hb) nd'.2.1 k⟩
theorem mem_footL : ∀ {ts : List Tr} {n : Nat} {u : Tr} {a : Addr}, ts[n]? = some u → a ∈ u.foot → a ∈ Tr.footL ts
  | [], _, _, _, e, _ => by simp at e
  | t :: ts, 0, u, a, e, h => by
    rw [footL_cons, show t = u from Option.some.inj e]; exact List.mem_append_left _ h
  | t :: ts, n + 1, u, a, e, h => by
    rw [footL_cons]; exact List.mem_append_right _ (mem_footL (n := n) e h)
end
section
variable {K : PySem.W.Frag} {P : List (Nat × Addr)} {G G' F : Hp} {ρ : List Sv} {σ : St} {H H' : Hp}
theorem treS {i j : Nat} {t u : Tr} (q : (ρ.set i (.tre t))[j]? = some (.tre u)) : (j = i ∧ u = t) ∨ (j ≠ i ∧ ρ[j]? = some (.tre u)) := by
  rcases get_set q with ⟨e, z⟩ | q
  · cases z; exact .inl ⟨e, rfl⟩
  · exact .inr q
/-- a slot holds a tree -/
theorem Rel.setT (R : Rel K P G F ρ σ H) {i : Nat} (ok : okSet ρ i) {t : Tr} {v : V} (ht : TRt K G H t v) (nd : t.foot.Nodup) (hf : ∀ a ∈ t.foot, G a = none ∧ F a = none ∧ NoS ρ σ a) : Rel K P G F (ρ.set i (.tre t)) (σ.set i (some v)) H := by
  have hl : i < σ.length := by rw [← R.len]; exact ok.lt
  refine ⟨by rw [List.length_set, List.length_set]; exact R.len, R.sg, R.sf, R.gf, fun j e q => ?_, fun j b ys q => ?_, fun j k a b ys c zs q1 q2 q3 q4 => ?_, fun p hp => ?_, fun j ys q => ?_, ⟨fun j u q => ?_, fun j u k c ys a q1 q2 q3 => ?_, fun j u k w q1 q2 hne a ha => ?_⟩⟩
  · rcases get_set q with ⟨_, z⟩ | ⟨hj, q⟩
    · cases z
    · rw [set_ne hj]; exact R.dat j e q
  · obtain ⟨hj, q⟩ := noOwnS (fun _ _ z => by cases z) q
    rw [set_ne hj]; exact R.own j b ys q
  · obtain ⟨hj, q1⟩ := noOwnS (fun _ _ z => by cases z) q1
    obtain ⟨hk, q2⟩ := noOwnS (fun _ _ z => by cases z) q2
    rw [set_ne hj] at q3
    rw [set_ne hk] at q4
    exact R.ne j k a b ys c zs q1 q2 q3 q4
  · obtain ⟨g1, zs, g2⟩ := R.pin p hp
    have hne : p.1 ≠ i := fun z => ok.nio zs (by rw [← z]; exact g2)
    exact ⟨by rw [set_ne hne]; exact g1, zs, by rw [set_ne hne]; exact g2⟩
  · exact R.pinc j ys (noOwnS (fun _ _ z => by cases z) q).2
  · rcases treS q with ⟨rfl, rfl⟩ | ⟨hj, q⟩
    · exact ⟨v, set_eq hl, ht, nd, fun a ha => ⟨(hf a ha).1, (hf a ha).2.1⟩⟩
    · rw [set_ne hj]; exact R.tr.got j u q
  · obtain ⟨hk, r2⟩ := noOwnS (fun _ _ z => by cases z) q2
    rw [set_ne hk] at q3
    rcases treS q1 with ⟨ej, eu⟩ | ⟨hj, r1⟩
    · rw [eu]; exact fun ha => (hf a ha).2.2.own k c ys r2 q3
    · exact R.tr.own j u k c ys a r1 r2 q3
  · rcases treS q1 with ⟨e1, eu⟩ | ⟨hj, r1⟩
    · rcases treS q2 with ⟨e2, ew⟩ | ⟨hk, r2⟩
      · exact absurd (e1.trans e2.symm) hne
      · exact (hf a (by rw [← eu]; exact ha)).2.2.tre k w r2
    · rcases treS q2 with ⟨e2, ew⟩ | ⟨hk, r2⟩
      · rw [ew]; exact fun hb => (hf a hb).2.2.tre j u r1 ha
      · exact R.tr.ne j u k w r1 r2 hne a ha
/-- a tree is changed in place, and may grow by new lists -/
theorem Rel.updT (R : Rel K P G F ρ σ H) {i : Nat} {t t' : Tr} {v : V} (e : ρ[i]? = some (.tre t)) (ev : σ[i]? = some (some v)) (hH : ∀ b o, H b = some o → b ∉ t.foot → H' b = some o) (ht : TRt K G H' t' v) (nd : t'.foot.Nodup)
    (hf : ∀ a ∈ t'.foot, a ∈ t.foot ∨ (G a = none ∧ F a = none ∧ NoS ρ σ a)) : Rel K P G F (ρ.set i (.tre t')) σ H' := by
  have hl : i < ρ.length := (List.getElem?_eq_some_iff.mp e).1
  obtain ⟨v0, g1, g2, g3, g4⟩ := R.tr.got i t e
  refine ⟨by rw [List.length_set]; exact R.len, fun b o q => ?_, fun b o q => ?_, R.gf, fun j d q => ?_, fun j b ys q => ?_, fun j k a b ys c zs q1 q2 => ?_, fun p hp => ?_, fun j ys q => ?_, ⟨fun j u q => ?_, fun j u k c ys a q1 q2 q3 => ?_, fun j u k w q1 q2 hne a ha => ?_⟩⟩
  · exact hH b o (R.sg _ _ q) fun hb => by rw [(g4 b hb).1] at q; cases q
  · exact hH b o (R.sf _ _ q) fun hb => by rw [(g4 b hb).2] at q; cases q
  · rcases get_set q with ⟨_, z⟩ | ⟨_, q⟩
    · cases z
    · exact R.dat j d q
  · obtain ⟨hj, q⟩ := noOwnS (fun _ _ z => by cases z) q
    obtain ⟨a, us, k1, k2, k3, k4, k5⟩ := R.own j b ys q
    exact ⟨a, us, k1, hH _ _ k2 (R.tr.own i t j b ys a e q k1), k3, k4, k5⟩
  · exact R.ne j k a b ys c zs (noOwnS (fun _ _ z => by cases z) q1).2 (noOwnS (fun _ _ z => by cases z) q2).2
  · obtain ⟨k1, zs, k2⟩ := R.pin p hp
    refine ⟨k1, zs, ?_⟩
    rw [set_ne fun z => ?_]
    · exact k2
    · rw [z, e] at k2; cases k2
  · exact R.pinc j ys (noOwnS (fun _ _ z => by cases z) q).2
  · rcases treS q with ⟨rfl, rfl⟩ | ⟨hj, q⟩
    · exact ⟨v, ev, ht, nd, fun a ha => by
        rcases hf a ha with h | h
        · exact g4 a h
        · exact ⟨h.1, h.2.1⟩⟩
    · obtain ⟨w, k1, k2, k3, k4⟩ := R.tr.got j u q
      exact ⟨w, k1, k2.mono (Same.refl _) (fun a ha => by
        obtain ⟨ws, hw⟩ := k2.ex ha
        rw [hw]
        exact hH a _ hw (R.tr.ne j u i t q e hj a ha)), k3, k4⟩
  · obtain ⟨hk, r2⟩ := noOwnS (fun _ _ z => by cases z) q2
    rcases treS q1 with ⟨ej, eu⟩ | ⟨hj, r1⟩
    · intro ha
      rw [eu] at ha
      rcases hf a ha with h | h
      · exact R.tr.own i t k c ys a e r2 q3 h
      · exact h.2.2.own k c ys r2 q3
    · exact R.tr.own j u k c ys a r1 r2 q3
  · rcases treS q1 with ⟨e1, eu⟩ | ⟨hj, r1⟩
    · rcases treS q2 with ⟨e2, ew⟩ | ⟨hk, r2⟩
      · exact absurd (e1.trans e2.symm) hne
      · rw [eu] at ha
        rcases hf a ha with h | h
        · exact R.tr.ne i t k w e r2 (fun z => hk z.symm) a h
        · exact h.2.2.tre k w r2
    · rcases treS q2 with ⟨e2, ew⟩ | ⟨hk, r2⟩
      · intro hb
        rw [ew] at hb
        rcases hf a hb with h | h
        · exact R.tr.ne j u i t r1 e hj a ha h
        · exact h.2.2.tre j u r1 ha
      · exact R.tr.ne j u k w r1 r2 hne a ha
end
/-! ### x = a list of its own, from now on a tree -/
def kSetT (E : AEnds) (i : Nat) : List D → List Sv → Prop := fun xs ρ1 => okSet ρ1 i ∧ ∀ a, E.nx (ρ1.set i (.tre (.lst a (xs.map .leaf))))
def sSetT (to : AO) (i : Nat) : AS := fun E ρ => to ρ (kSetT E i) E.xx
section
variable {X : Cx} {W : WX} {pos : Pos} {e e1 : Expr} {te : AE} {to : AO}
/-! ### x.append(e), x a tree -/
def kAppT (E : AEnds) (i : Nat) : KD := fun d ρ1 => match ρ1[i]? with
  | some (.tre (.lst a ts)) => ts.length < sizeLine ∧ E.nx (ρ1.set i (.tre (.lst a (ts ++ [.leaf d]))))
  | _ => False
def isTre (ρ : List Sv) (i : Nat) : Prop := match ρ[i]? with
  | some (.tre (.lst _ _)) => True
  | _ => False
theorem isTre.ex {ρ : List Sv} {i : Nat} (h : isTre ρ i) : ∃ a ts, ρ[i]? = some (.tre (.lst a ts)) := by
  unfold isTre at h
  split at h
  · rename_i a ts e; exact ⟨a, ts, e⟩
  · exact h.elim
def sAppT (i : Nat) (te : AE) : AS := fun E ρ => isTre ρ i ∧ te ρ (kAppT E i) E.xx
/-! ### x.append((e, a list of its own)) -/
def kAppTO2 (E : AEnds) (i : Nat) (d : D) : List D → List Sv → Prop := fun xs ρ2 => match ρ2[i]? with
  | some (.tre (.lst a ts)) => ts.length < sizeLine ∧ ∀ l, E.nx (ρ2.set i (.tre (.lst a (ts ++ [.tup [.leaf d, .lst l (xs.map .leaf)]]))))
  | _ => False
def kAppTO1 (to : AO) (E : AEnds) (i : Nat) : KD := fun d ρ1 => to ρ1 (kAppTO2 E i d) E.xx
def sAppTO (i : Nat) (te : AE) (to : AO) : AS := fun E ρ => isTre ρ i ∧ te ρ (kAppTO1 to E i) E.xx
end
/-! ### f(x[j][k], ..), where f changes this list -/
def kLendT4 (E : AEnds) (ρ : List Sv) (i : Nat) (a : Addr) (ts : List Tr) (n1 : Nat) (us : List Tr) (n2 : Nat) (l : Addr) : Sv → List Sv → Prop := fun r ρp => match r, ρp with
  | .dat _, .own true ys :: _ => E.nx (ρ.set i (.tre (.lst a (ts.set n1 (.tup (us.set n2 (.lst l (ys.map .leaf))))))))
  | _, _ => False
def kLendT3 (E : AEnds) (ρ : List Sv) (i : Nat) (c : Ctr) (a : Addr) (ts : List Tr) (n1 : Nat) (us : List Tr) (n2 : Nat) (l : Addr) (xs : List D) : List D → Prop := fun ds => (∀ d ∈ ds, d.flat = true) ∧ c (.own true xs :: ds.map .dat) (kLendT4 E ρ i a ts n1 us n2 l) kNoX
def kLendT2 (E : AEnds) (ρ : List Sv) (i : Nat) (c : Ctr) (w : VA) (a : Addr) (ts : List Tr) (n1 : Nat) (us : List Tr) : D → Prop := fun d2 => ∃ j2 n2 l xs, d2 = .int j2 ∧ ixN us.length j2 = some n2 ∧ us[n2]? = some (.lst l (xs.map .leaf)) ∧ w ρ (kLendT3 E ρ i c a ts n1 us n2 l xs)
def kLendT1 (E : AEnds) (ρ : List Sv) (i : Nat) (c : Ctr) (w : VA) (v2 : AV) : D → Prop := fun d1 => ∃ j1 a ts n1 us, d1 = .int j1 ∧ ρ[i]? = some (.tre (.lst a ts)) ∧ ixN ts.length j1 = some n1 ∧ ts[n1]? = some (.tup us) ∧ v2 ρ (kLendT2 E ρ i c w a ts n1 us)
def sLendT (i : Nat) (v1 v2 : AV) (c : Ctr) (w : VA) : AS := fun E ρ => isTre ρ i ∧ v1 ρ (kLendT1 E ρ i c w v2)
theorem atI_ix {α : Type} {xs : List α} {i : Int} {n : Nat} {x : α} (h : ixN xs.length i = some n) (e : xs[n]? = some x) : atI xs i = some x := by unfold atI; rw [h]; exact e
/-! ### rules of simp -/
@[simp] theorem strip_leaf {d : D} : (Tr.leaf d).strip = d := by rw [Tr.strip]
@[simp] theorem strip_lst {a : Addr} {ts : List Tr} : (Tr.lst a ts).strip = .lst (ts.map Tr.strip) := by rw [Tr.strip, stripL_map]
@[simp] theorem strip_tup {ts : List Tr} : (Tr.tup ts).strip = .tup (ts.map Tr.strip) := by rw [Tr.strip, stripL_map]
section
variable {ρ ρ1 ρ2 : List Sv} {te : AE} {to : AO} {E : AEnds} {i n1 n2 : Nat} {xs ys : List D} {d d1 d2 : D} {a l : Addr} {ts us : List Tr} {v1 v2 : AV} {c : Ctr} {w : VA} {ds : List D} {r : Sv} {rest : List Sv}
@[simp ↓] theorem q_sSetT : sSetT to i E ρ = to ρ (kSetT E i) E.xx := keep rfl
@[simp ↓] theorem q_kSetT : kSetT E i xs ρ1 = (okSet ρ1 i ∧ ∀ a, E.nx (ρ1.set i (.tre (.lst a (xs.map .leaf))))) := keep rfl
@[simp ↓] theorem q_isTre : isTre ρ i = (match ρ[i]? with
  | some (.tre (.lst _ _)) => True
  | _ => False) := keep rfl
@[simp ↓] theorem q_sAppT : sAppT i te E ρ = (isTre ρ i ∧ te ρ (kAppT E i) E.xx) := keep rfl
@[simp ↓] theorem q_kAppT : kAppT E i d ρ1 = (match ρ1[i]? with
  | some (.tre (.lst a ts)) => ts.length < sizeLine ∧ E.nx (ρ1.set i (.tre (.lst a (ts ++ [.leaf d]))))
  | _ => False) := keep rfl
@[simp ↓] theorem q_sAppTO : sAppTO i te to E ρ = (isTre ρ i ∧ te ρ (kAppTO1 to E i) E.xx) := keep rfl
@[simp ↓] theorem q_kAppTO1 : kAppTO1 to E i d ρ1 = to ρ1 (kAppTO2 E i d) E.xx := keep rfl
@[simp ↓] theorem q_kAppTO2 : kAppTO2 E i d xs ρ2 = (match ρ2[i]? with
  | some (.tre (.lst a ts)) => ts.length < sizeLine ∧ ∀ l, E.nx (ρ2.set i (.tre (.lst a (ts ++ [.tup [.leaf d, .lst l (xs.map .leaf)]]))))
  | _ => False) := keep rfl
@[simp ↓] theorem q_sLendT : sLendT i v1 v2 c w E ρ = (isTre ρ i ∧ v1 ρ (kLendT1 E ρ i c w v2)) := keep rfl
@[simp ↓] theorem q_kLendT1 : kLendT1 E ρ i c w v2 d1 = (∃ j1 a ts n1 us, d1 = .int j1 ∧ ρ[i]? = some (.tre (.lst a ts)) ∧ ixN ts.length j1 = some n1 ∧ ts[n1]? = some (.tup us) ∧ v2 ρ (kLendT2 E ρ i c w a ts n1 us)) := keep rfl
@[simp ↓] theorem q_kLendT2 : kLendT2 E ρ i c w a ts n1 us d2 = (∃ j2 n2 l xs, d2 = .int j2 ∧ ixN us.length j2 = some n2 ∧ us[n2]? = some (.lst l (xs.map .leaf)) ∧ w ρ (kLendT3 E ρ i c a ts n1 us n2 l xs)) := keep rfl
@[simp ↓] theorem q_kLendT3 : kLendT3 E ρ i c a ts n1 us n2 l xs ds = ((∀ d ∈ ds, d.flat = true) ∧ c (.own true xs :: ds.map .dat) (kLendT4 E ρ i a ts n1 us n2 l) kNoX) := keep rfl
@[simp ↓] theorem q_kLendT4 : kLendT4 E ρ i a ts n1 us n2 l (.dat d) (.own true ys :: rest) = E.nx (ρ.set i (.tre (.lst a (ts.set n1 (.tup (us.set n2 (.lst l (ys.map .leaf)))))))) := keep rfl
end
end VS
/-! VSO: a name for a list within a tree, through which it is changed. -/
namespace VS
open PySem PySem.Spec PyProof.Rows L2
/-! ### n = x[j][k] ; and what follows changes this list by its name -/
def kAl3 (E : AEnds) (i n : Nat) (a : Addr) (ts : List Tr) (n1 : Nat) (us : List Tr) (n2 : Nat) (l : Addr) : List Sv → Prop := fun ρ2 => match ρ2[i]?, ρ2[n]? with
  | some (.tre (.hole b)), some (.own true ys) => b = a ∧ E.nx ((ρ2.set n .un).set i (.tre (.lst a (ts.set n1 (.tup (us.set n2 (.lst l (ys.map .leaf))))))))
  | _, _ => False
def kAl2 (E : AEnds) (ρ : List Sv) (i n : Nat) (tb : AS) (a : Addr) (ts : List Tr) (n1 : Nat) (us : List Tr) : D → Prop := fun d2 => ∃ j2 n2 l xs, d2 = .int j2 ∧ ixN us.length j2 = some n2 ∧ us[n2]? = some (.lst l (xs.map .leaf)) ∧ n ≠ i ∧ okSet ρ n ∧
  tb { nx := kAl3 E i n a ts n1 us n2 l, rt := fun _ _ => False } ((ρ.set i (.tre (.hole a))).set n (.own true xs))
def kAl1 (E : AEnds) (ρ : List Sv) (i n : Nat) (v2 : AV) (tb : AS) : D → Prop := fun d1 => ∃ j1 a ts n1 us, d1 = .int j1 ∧ ρ[i]? = some (.tre (.lst a ts)) ∧ ixN ts.length j1 = some n1 ∧ ts[n1]? = some (.tup us) ∧ v2 ρ (kAl2 E ρ i n tb a ts n1 us)
def sAl (i n : Nat) (v1 v2 : AV) (tb : AS) : AS := fun E ρ => isTre ρ i ∧ v1 ρ (kAl1 E ρ i n v2 tb)
/-! ### x.append((e, o if c else e2)), x a tree, o a list of its own -/
def kAppTI3 (E : AEnds) (i : Nat) (d : D) : KD := fun d2 ρ2 => kAppT E i (.tup [d, d2]) ρ2
def kAppTI2 (to : AO) (te2 : AE) (E : AEnds) (i : Nat) (d : D) : Bool → List Sv → Prop := fun c ρ1 => if c = true then to ρ1 (kAppTO2 E i d) E.xx else te2 ρ1 (kAppTI3 E i d) E.xx
def kAppTI1 (tc : AT) (to : AO) (te2 : AE) (E : AEnds) (i : Nat) : KD := fun d ρ1 => tc ρ1 (kAppTI2 to te2 E i d) E.xx
def sAppTI (i : Nat) (te : AE) (tc : AT) (to : AO) (te2 : AE) : AS := fun E ρ => isTre ρ i ∧ te ρ (kAppTI1 tc to te2 E i) E.xx
section
variable {X : Cx} {W : WX} {pos : Pos} {e e1 e2 ec : Expr} {te te2 : AE} {to : AO} {tc : AT}
/-! ### x[j] = e, x a tree -/
def kPutT2 (E : AEnds) (i : Nat) (d : D) : KD := fun k ρ2 => match k, ρ2[i]? with
  | .int k', some (.tre (.lst a ts)) => ∃ n, ixN ts.length k' = some n ∧ E.nx (ρ2.set i (.tre (.lst a (ts.set n (.leaf d)))))
  | _, _ => False
def kPutT1 (tk : AE) (E : AEnds) (i : Nat) : KD := fun d ρ1 => isTre ρ1 i ∧ tk ρ1 (kPutT2 E i d) E.xx
def sPutT (i : Nat) (te tk : AE) : AS := fun E ρ => te ρ (kPutT1 tk E i) E.xx
theorem footL_put {u : Tr} (hu : u.foot = []) : ∀ {ts : List Tr} {n : Nat}, (∀ a ∈ Tr.footL (ts.set n u), a ∈ Tr.footL ts) ∧ ((Tr.footL ts).Nodup → (Tr.footL (ts.set n u)).Nodup)
  | [], _ => ⟨fun _ h => h, fun h => h⟩
  | t :: ts, 0 => by
    rw [List.set_cons_zero, footL_cons, footL_cons, hu]
    exact ⟨fun a ha => List.mem_append_right _ ha, fun nd => (List.nodup_append.mp nd).2.1⟩
  | t :: ts, n + 1 => by
    obtain ⟨h1, h2⟩ := footL_put hu (ts := ts) (n := n)
    rw [List.set_cons_succ, footL_cons, footL_cons]
    refine ⟨fun a ha => ?_, fun nd => ?_⟩
    · rcases List.mem_append.mp ha with ha | ha
      · exact List.mem_append_left _ ha
      · exact List.mem_append_right _ (h1 a ha)
    · have nd := List.nodup_append.mp nd
      exact List.nodup_append.mpr ⟨nd.1, h2 nd.2.1, fun a ha b hb => nd.2.2 a ha b (h1 b hb)⟩
theorem TRL.putLeaf {K : PySem.W.Frag} {G H H' : Hp} {d : D} {v : V} (hv : Rp K G d v) : ∀ {ts : List Tr} {vs : List V} {n : Nat}, (∀ a ∈ Tr.footL ts, H' a = H a) → TRL K G H ts vs → TRL K G H' (ts.set n (.leaf d)) (vs.set n v)
  | [], vs, _, _, h => by rw [trl_nil.mp h]; exact trl_nil.mpr rfl
  | t :: ts, vs, 0, hf, h => by
    obtain ⟨w, r, rfl, h2, h3⟩ := trl_cons.mp h
    rw [footL_cons] at hf
    exact trl_cons.mpr ⟨v, r, rfl, tr_leaf.mpr hv, TRL.mono (Same.refl _) (fun a ha => hf a (List.mem_append_right _ ha)) h3⟩
  | t :: ts, vs, n + 1, hf, h => by
    obtain ⟨w, r, rfl, h2, h3⟩ := trl_cons.mp h
    rw [footL_cons] at hf
    exact trl_cons.mpr ⟨w, r.set n v, rfl, TR.mono (Same.refl _) (fun a ha => hf a (List.mem_append_left _ ha)) h2, TRL.putLeaf hv (fun a ha => hf a (List.mem_append_right _ ha)) h3⟩
end
/-! ### rules of simp -/
section
variable {ρ ρ2 : List Sv} {E : AEnds} {i n n1 n2 : Nat} {xs ys : List D} {d d1 d2 : D} {a l : Addr} {ts us : List Tr} {v1 v2 : AV} {tb : AS}
@[simp ↓] theorem q_sAl : sAl i n v1 v2 tb E ρ = (isTre ρ i ∧ v1 ρ (kAl1 E ρ i n v2 tb)) := keep rfl
@[simp ↓] theorem q_kAl1 : kAl1 E ρ i n v2 tb d1 = (∃ j1 a ts n1 us, d1 = .int j1 ∧ ρ[i]? = some (.tre (.lst a ts)) ∧ ixN ts.length j1 = some n1 ∧ ts[n1]? = some (.tup us) ∧ v2 ρ (kAl2 E ρ i n tb a ts n1 us)) := keep rfl
@[simp ↓] theorem q_kAl2 : kAl2 E ρ i n tb a ts n1 us d2 = (∃ j2 n2 l xs, d2 = .int j2 ∧ ixN us.length j2 = some n2 ∧ us[n2]? = some (.lst l (xs.map .leaf)) ∧ n ≠ i ∧ okSet ρ n ∧
  tb { nx := kAl3 E i n a ts n1 us n2 l, rt := fun _ _ => False } ((ρ.set i (.tre (.hole a))).set n (.own true xs))) := keep rfl
@[simp ↓] theorem q_kAl3 : kAl3 E i n a ts n1 us n2 l ρ2 = (match ρ2[i]?, ρ2[n]? with
  | some (.tre (.hole b)), some (.own true ys) => b = a ∧ E.nx ((ρ2.set n .un).set i (.tre (.lst a (ts.set n1 (.tup (us.set n2 (.lst l (ys.map .leaf))))))))
  | _, _ => False) := keep rfl
end
section
variable {ρ ρ1 ρ2 : List Sv} {te te2 tk : AE} {to : AO} {tc : AT} {E : AEnds} {i : Nat} {d d2 : D} {a : Addr} {ts : List Tr} {c : Bool} {k : Int}
@[simp ↓] theorem q_sAppTI : sAppTI i te tc to te2 E ρ = (isTre ρ i ∧ te ρ (kAppTI1 tc to te2 E i) E.xx) := keep rfl
@[simp ↓] theorem q_kAppTI1 : kAppTI1 tc to te2 E i d ρ1 = tc ρ1 (kAppTI2 to te2 E i d) E.xx := keep rfl
@[simp ↓] theorem q_kAppTI2 : kAppTI2 to te2 E i d c ρ1 = (if c = true then to ρ1 (kAppTO2 E i d) E.xx else te2 ρ1 (kAppTI3 E i d) E.xx) := keep rfl
@[simp ↓] theorem q_kAppTI3 : kAppTI3 E i d d2 ρ2 = kAppT E i (.tup [d, d2]) ρ2 := keep rfl
@[simp ↓] theorem q_sPutT : sPutT i te tk E ρ = te ρ (kPutT1 tk E i) E.xx := keep rfl
@[simp ↓] theorem q_kPutT1 : kPutT1 tk E i d ρ1 = (isTre ρ1 i ∧ tk ρ1 (kPutT2 E i d) E.xx) := keep rfl
@[simp ↓] theorem q_kPutT2 : kPutT2 E i d (.int k) ρ2 = (match ρ2[i]? with
  | some (.tre (.lst a ts)) => ∃ n, ixN ts.length k = some n ∧ E.nx (ρ2.set i (.tre (.lst a (ts.set n (.leaf d)))))
  | _ => False) := keep (by
    unfold kPutT2
    rcases ρ2[i]? with _ | (_ | _ | _ | _ | ⟨_ | _ | _ | _⟩) <;> rfl)
end
end VS
/-! VSP: methods with arguments. -/
namespace VS
open PySem PySem.Spec PyProof.Rows L2
section
variable {X : Cx} {W : WX} {o e : Expr} {es : List Expr} {ta : AE} {ua : AA} {k : Nat} {c m : Str} {ps : List Str} {ctr : Ctr} {apos pos : Pos}
def kMethN2 (Q : KD) (Z : KX) (ctr : Ctr) (n : Nat) (d : D) : List D → List Sv → Prop := fun ds ρ2 => ds.length + 1 = n ∧ ctr (.dat d :: ds.map .dat) (kMethR Q ρ2) (kMethX Z ρ2)
def kMethN1 (Q : KD) (Z : KX) (c m : Str) (n : Nat) (ctr : Ctr) (ua : AA) : KD := fun d ρ1 => match d with
  | .obj c' ns xs => c' = c ∧ isX ns = false ∧ m ∉ ns ∧ ua ρ1 (kMethN2 Q Z ctr n (.obj c' ns xs)) Z
  | _ => False
def aMethN (c m : Str) (n : Nat) (ctr : Ctr) (ta : AE) (ua : AA) : AE := fun ρ Q Z => ta ρ (kMethN1 Q Z c m n ctr ua) Z
end
section
variable {ρ ρ1 ρ2 : List Sv} {Q : KD} {Z : KX} {ta : AE} {ua : AA} {c m : Str} {n : Nat} {ctr : Ctr} {ns : List Str} {xs ds : List D} {d : D}
@[simp ↓] theorem q_aMethN : aMethN c m n ctr ta ua ρ Q Z = ta ρ (kMethN1 Q Z c m n ctr ua) Z := keep rfl
@[simp ↓] theorem q_kMethN1 {c' : Str} : kMethN1 Q Z c m n ctr ua (.obj c' ns xs) ρ1 = (c' = c ∧ isX ns = false ∧ m ∉ ns ∧ ua ρ1 (kMethN2 Q Z ctr n (.obj c' ns xs)) Z) := keep rfl
@[simp ↓] theorem q_kMethN2 : kMethN2 Q Z ctr n d ds ρ2 = (ds.length + 1 = n ∧ ctr (.dat d :: ds.map .dat) (kMethR Q ρ2) (kMethX Z ρ2)) := keep rfl
end
end VS
/-! VSQ: objects made by an __init__ that computes. -/
namespace VS
open PySem PySem.Spec PyProof.Rows L2
/-! ### the call of a class -/
def kMakeR (Q : KD) (ρ1 : List Sv) (a : Addr) (c : Str) : Sv → List Sv → Prop := fun r ρp => match r, ρp with
  | .dat .non, .tre (.ob y c' ns ts) :: _ => y = a ∧ c' = c ∧ ∃ ds : List D, ts = ds.map .leaf ∧ Q (.obj c ns ds) ρ1
  | _, _ => False
def kMakeX (Z : KX) (ρ1 : List Sv) : Exc → List Sv → Prop := fun x _ => Z x ρ1
def kMakeI (Q : KD) (Z : KX) (c : Str) (n : Nat) (ctr : Ctr) : List D → List Sv → Prop := fun ds ρ1 => ds.length + 1 = n ∧ ∀ a : Addr, ctr (.tre (.ob a c [] []) :: ds.map .dat) (kMakeR Q ρ1 a c) (kMakeX Z ρ1)
def aMakeI (c : Str) (n : Nat) (ctr : Ctr) (t : AA) : AE := fun ρ Q Z => t ρ (kMakeI Q Z c n ctr) Z
/-! ### in an __init__: self.f = e, self.f -/
def kFldI (E : AEnds) (i : Nat) (c f : Str) : KD := fun d ρ1 => match ρ1[i]? with
  | some (.tre (.ob a c' ns ts)) => c' = c ∧ f ∉ ns ∧ ns.length < 900 ∧ isX (ns ++ [f]) = false ∧ E.nx (ρ1.set i (.tre (.ob a c' (ns ++ [f]) (ts ++ [.leaf d]))))
  | _ => False
def sFldI (i : Nat) (c f : Str) (te : AE) : AS := fun E ρ => te ρ (kFldI E i c f) E.xx
section
variable {ρ ρ1 : List Sv} {Q : KD} {Z : KX} {te : AE} {aa : AA} {c f : Str} {i n : Nat} {ctr : Ctr} {ds : List D} {d : D} {E : AEnds} {a : Addr} {ns : List Str} {ts : List Tr} {rest : List Sv} {x : Exc} {ρp : List Sv}
@[simp ↓] theorem q_aMakeI : aMakeI c n ctr aa ρ Q Z = aa ρ (kMakeI Q Z c n ctr) Z := keep rfl
@[simp ↓] theorem q_kMakeI : kMakeI Q Z c n ctr ds ρ1 = (ds.length + 1 = n ∧ ∀ a : Addr, ctr (.tre (.ob a c [] []) :: ds.map .dat) (kMakeR Q ρ1 a c) (kMakeX Z ρ1)) := keep rfl
@[simp ↓] theorem q_kMakeR {y : Addr} {c' : Str} : kMakeR Q ρ1 a c (.dat .non) (.tre (.ob y c' ns ts) :: rest) = (y = a ∧ c' = c ∧ ∃ ds : List D, ts = ds.map .leaf ∧ Q (.obj c ns ds) ρ1) := keep rfl
@[simp ↓] theorem q_kMakeX : kMakeX Z ρ1 x ρp = Z x ρ1 := keep rfl
@[simp ↓] theorem q_sFldI : sFldI i c f te E ρ = te ρ (kFldI E i c f) E.xx := keep rfl
@[simp ↓] theorem q_kFldI : kFldI E i c f d ρ1 = (match ρ1[i]? with
  | some (.tre (.ob a c' ns ts)) => c' = c ∧ f ∉ ns ∧ ns.length < 900 ∧ isX (ns ++ [f]) = false ∧ E.nx (ρ1.set i (.tre (.ob a c' (ns ++ [f]) (ts ++ [.leaf d]))))
  | _ => False) := keep rfl
end
end VS
/-! VSR: max(xs, default=d) of a list of ints. -/
namespace VS
open PySem PySem.Spec PyProof.Rows L2
section
variable {X : Cx} {W : WX} {a b : Expr} {ta tb : AE} {p pos kp : Pos}
def maxOr : List Int → D → D
  | [], d => d
  | n :: ns, _ => .int (ns.foldl max n)
def kMaxD2 (Q : KD) (x : D) : KD := fun d ρ2 => match x with
  | .lst xs => ∃ ns, intsOf xs = some ns ∧ Q (maxOr ns d) ρ2
  | _ => False
def kMaxD1 (Q : KD) (Z : KX) (tb : AE) : KD := fun x ρ1 => tb ρ1 (kMaxD2 Q x) Z
def aMaxD (ta tb : AE) : AE := fun ρ Q Z => ta ρ (kMaxD1 Q Z tb) Z
end
section
variable {ρ ρ1 : List Sv} {Q : KD} {Z : KX} {ta tb : AE} {x d : D} {xs : List D}
@[simp ↓] theorem q_aMaxD : aMaxD ta tb ρ Q Z = ta ρ (kMaxD1 Q Z tb) Z := keep rfl
@[simp ↓] theorem q_kMaxD1 : kMaxD1 Q Z tb x ρ1 = tb ρ1 (kMaxD2 Q x) Z := keep rfl
@[simp ↓] theorem q_kMaxD2 : kMaxD2 Q (.lst xs) d ρ1 = (∃ ns, intsOf xs = some ns ∧ Q (maxOr ns d) ρ1) := keep rfl
end
/-- the scope within a comprehension, from the scope around it alone -/
def relS (scope o : Scope) : Scope := { scope with names := scope.names.map fun (n, k) => if (k == .free && o.kind == .function && o.names.lookup n == some .cell) then (n, .cell) else (n, k) }
theorem blk_sc {X : Cx} {sh : Shared} {H : Hp} {scope : Scope} {cl : List (Str × Addr)} {C : Addr} {e : Env} {fp : List Addr} : (X.blk sh H scope (compEnvC scope cl C e) fp).env.scope = relS scope e.scope := rfl
end VS
/-! VSS: sorted of lists of ints (as items), of texts, of ints; any length. -/
namespace VS
open PySem PySem.Spec PyProof.Rows L2
section
variable {X : Cx}
/-- rows of ints, texts, or ints -/
def bSortA : List D → (D → Prop) → Prop
  | [.lst ds], Q => (∃ nss : List (List Int), ds = nss.map (fun ns => .lst (ns.map .int)) ∧ ∀ nss' : List (List Int), nss'.Perm nss → nss'.Pairwise (· ≤ ·) → Q (.lst (nss'.map fun ns => .lst (ns.map .int)))) ∨
    (∃ xs : List Str, ds = xs.map .str ∧ ∀ xs' : List Str, xs'.Perm xs → xs'.Pairwise (fun a b => a.cps.toList ≤ b.cps.toList) → Q (.lst (xs'.map .str))) ∨
    ∃ ns : List Int, ds = ns.map .int ∧ ∀ ns' : List Int, ns'.Perm ns → ns'.Pairwise (· ≤ ·) → Q (.lst (ns'.map .int))
  | _, _ => False
/-- sorted(x), x an own list -/
def kSorted (Q : KD) (ρ : List Sv) : D → Prop := fun d => Q d ρ
def kSortO (Q : KD) (ρ : List Sv) : Option Sv → Prop
  | some (.own _ xs) => bSortA [.lst xs] (kSorted Q ρ)
  | _ => False
def aSortO (i : Nat) : AE := fun ρ Q _ => kSortO Q ρ ρ[i]?
@[simp ↓] theorem q_aSortO {i : Nat} {ρ : List Sv} {Q : KD} {Z : KX} : aSortO i ρ Q Z = kSortO Q ρ ρ[i]? := keep rfl
@[simp ↓] theorem q_kSortO {ρ : List Sv} {Q : KD} {b : Bool} {xs : List D} : kSortO Q ρ (some (.own b xs)) = bSortA [.lst xs] (kSorted Q ρ) := keep rfl
@[simp ↓] theorem q_kSorted {ρ : List Sv} {Q : KD} {d : D} : kSorted Q ρ d = Q d ρ := keep rfl
@[simp ↓] theorem q_bSortA {ds : List D} {Q : D → Prop} : bSortA [.lst ds] Q = ((∃ nss : List (List Int), ds = nss.map (fun ns => .lst (ns.map .int)) ∧ ∀ nss' : List (List Int), nss'.Perm nss → nss'.Pairwise (· ≤ ·) → Q (.lst (nss'.map fun ns => .lst (ns.map .int)))) ∨
    (∃ xs : List Str, ds = xs.map .str ∧ ∀ xs' : List Str, xs'.Perm xs → xs'.Pairwise (fun a b => a.cps.toList ≤ b.cps.toList) → Q (.lst (xs'.map .str))) ∨
    ∃ ns : List Int, ds = ns.map .int ∧ ∀ ns' : List Int, ns'.Perm ns → ns'.Pairwise (· ≤ ·) → Q (.lst (ns'.map .int))) := keep rfl
end
end VS
/-! VST: an own list that is data for some statements, and one's own again behind them. -/
namespace VS
open PySem PySem.Spec PyProof.Rows L2
def zSeq (t : AS) (u : Addr → List D → AS) : Addr → List D → AS := fun a xs D ρ => t { D with nx := u a xs D } ρ
def sFrz (i : Nat) (t : Addr → List D → AS) : AS := fun D ρ => match ρ[i]? with
  | some (.own false xs) => ∀ a, t a xs D (ρ.set i (.tre (.frz a (.lst xs))))
  | _ => False
section
variable {D : AEnds} {ρ : List Sv} {t : AS} {u : Addr → List VS.D → AS} {a : Addr} {xs : List VS.D} {i : Nat} {dr : List Nat}
def kFrz2 (u : Addr → List VS.D → AS) (i : Nat) (D : AEnds) (ρ : List Sv) : Option Sv → Prop
  | some (.own false xs) => ∀ a, u a xs D (ρ.set i (.tre (.frz a (.lst xs))))
  | _ => False
@[simp ↓] theorem q_sFrz : sFrz i u D ρ = kFrz2 u i D ρ ρ[i]? := by
  unfold sFrz kFrz2
  rfl
@[simp ↓] theorem q_kFrz2 : kFrz2 u i D ρ (some (.own false xs)) = ∀ a, u a xs D (ρ.set i (.tre (.frz a (.lst xs)))) := keep rfl
@[simp ↓] theorem q_zSeq : zSeq t u a xs D ρ = t { D with nx := u a xs D } ρ := keep rfl
end
/-! ### .. where a list stays of which some items are known -/
section
variable {X : Cx} {W : WX}
def kPrt (Q : D → Prop) (s : Option Sv) : D → Prop
  | .int k => (match s with
    | some (.tre (.part os)) => ∃ n d, ixN os.length k = some n ∧ os[n]? = some (some d) ∧ Q d
    | _ => False)
  | _ => False
def vPart (i : Nat) (tk : AV) : AV := fun ρ Q => (∃ os, ρ[i]? = some (.tre (.part os))) ∧ tk ρ (kPrt Q ρ[i]?)
end
section
variable {D : AEnds} {ρ : List Sv} {Q : VS.D → Prop} {i : Nat} {tk : AV} {k : Int} {os : List (Option VS.D)}
@[simp ↓] theorem q_vPart : vPart i tk ρ Q = ((∃ os, ρ[i]? = some (.tre (.part os))) ∧ tk ρ (kPrt Q ρ[i]?)) := keep rfl
@[simp ↓] theorem q_kPrt : kPrt Q (some (.tre (.part os))) (.int k) = ∃ n d, ixN os.length k = some n ∧ os[n]? = some (some d) ∧ Q d := keep rfl
end
end VS
/-! VSU: the set of a list of ints, sorted. -/
namespace VS
open PySem PySem.Spec PyProof.Rows L2
section
variable {P : Program} {w : World} {A : Around} {E : Value → Shared → Prop} {s : Shared}
abbrev nuSet (w : World) : Obj := { cls := .type "set", dict := none, data := .set #[] 0 (.fresh 0 0 (!w.params.followText "set-order")) }
abbrev withNu (w : World) (h : Heap) : Heap := h.push (nuSet w)
end
end VS
/-! VSV: sorted(set(a list of ints)). -/
namespace VS
open PySem PySem.Spec PyProof.Rows L2
section
variable {X : Cx}
variable {W : WX} {e : Expr} {te : AE}
def kSrtS (Q : KD) : KD := fun d ρ1 => ∃ zs ms : List Int, d = .lst (zs.map .int) ∧ zs.length < 4000 ∧ (∀ z ∈ zs, z ∈ ms) ∧ ms.length < 64 ∧ ∀ ns : List Int, ns.Pairwise (· < ·) → (∀ k, k ∈ ns ↔ k ∈ zs) → Q (.lst (ns.map .int)) ρ1
def aSrtS (te : AE) : AE := fun ρ Q Z => te ρ (kSrtS Q) Z
@[simp ↓] theorem q_aSrtS {ρ : List Sv} {Q : KD} {Z : KX} : aSrtS te ρ Q Z = te ρ (kSrtS Q) Z := keep rfl
@[simp ↓] theorem q_kSrtS {ρ : List Sv} {Q : KD} {ds : List D} : kSrtS Q (.lst ds) ρ = (∃ zs ms : List Int, D.lst ds = .lst (zs.map .int) ∧ zs.length < 4000 ∧ (∀ z ∈ zs, z ∈ ms) ∧ ms.length < 64 ∧ ∀ ns : List Int, ns.Pairwise (· < ·) → (∀ k, k ∈ ns ↔ k ∈ zs) → Q (.lst (ns.map .int)) ρ) := keep rfl
end
end VS
/-! VSW: max(xs); a statement read in two ways. -/
namespace VS
open PySem PySem.Spec PyProof.Rows L2
def bMax1 : List D → (D → Prop) → Prop
  | [.lst xs], Q => ∃ ns, intsOf xs = some ns ∧ ns ≠ [] ∧ Q (maxOr ns .non)
  | _, _ => False
@[simp ↓] theorem q_bMax1 {xs : List D} {Q : D → Prop} : bMax1 [.lst xs] Q = (∃ ns, intsOf xs = some ns ∧ ns ≠ [] ∧ Q (maxOr ns .non)) := keep rfl
/-- either reading will do -/
def sOr (t u : AS) : AS := fun E ρ => t E ρ ∨ u E ρ
@[simp ↓] theorem q_sOr {t u : AS} {E : AEnds} {ρ : List Sv} : sOr t u E ρ = (t E ρ ∨ u E ρ) := keep rfl
end VS
/-! VSX: isinstance(None, a class of errors). -/
/-! VSY: sorted(set(a text)). -/
namespace VS
open PySem PySem.Spec PyProof.Rows L2
open PySem.Froz (TxOk addTx SD sObj sing tailTx)
theorem perm_sub {α : Type} [BEq α] [LawfulBEq α] : ∀ {l m : List α}, l.Nodup → (∀ x ∈ l, x ∈ m) → m.length ≤ l.length → m.Perm l
  | [], m, _, _, h => by
    have e : m = [] := List.eq_nil_of_length_eq_zero (Nat.le_zero.mp h)
    rw [e]
  | x :: l, m, hn, hs, h => by
    have hx : x ∈ m := hs x (List.mem_cons_self ..)
    have h1 : m.Perm (x :: m.erase x) := List.perm_cons_erase hx
    have hlen := h1.length_eq
    refine h1.trans (List.Perm.cons x (perm_sub (List.nodup_cons.mp hn).2 (fun y hy => ?_) (by simp only [List.length_cons] at hlen h; omega)))
    exact (List.mem_erase_of_ne (fun (e : y = x) => (List.nodup_cons.mp hn).1 (by rw [← e]; exact hy))).mpr (hs y (List.mem_cons_of_mem _ hy))
/-- the payload D holds the texts l and can be walked -/
def DOk (P : Program) (w : World) (D : SD) (l : List Str) : Prop := TxOk P w D l ∧ l.Nodup ∧ Ris D.2.2.place.toList ∧ (w.params.followText "set-order" = true ∨ D.2.2.led = true)
section
variable {P : Program} {w : World} {A : Around} {E : Value → Shared → Prop} {s : Shared}
theorem tail_ris {ep : Nat} {es1 : Array (Int × Value)} {t2 : SetTable} {d : Bool} (r : Ris t2.place.toList) : Ris (tailTx ep es1 t2 d).2.2.place.toList := by
  unfold tailTx
  split
  · exact relayAll_ris _ _ _
  · exact r
theorem tail_led {ep : Nat} {es1 : Array (Int × Value)} {t2 : SetTable} {d : Bool} (r : t2.led = true) : (tailTx ep es1 t2 d).2.2.led = true := by
  unfold tailTx
  split
  · exact (relayAll_led _ _ _).trans r
  · exact r
theorem dok_add {D : SD} {l : List Str} {k : Str} (u : Tok) (F : DOk P w D l) (hk : k ∉ l) : DOk P w (addTx (hashStr w k) (.str k u) D) (k :: l) := by
  obtain ⟨f, nd, r, hl⟩ := F
  refine ⟨PySem.Froz.add_ok u f, List.nodup_cons.mpr ⟨hk, nd⟩, ?_, hl.imp id fun z => ?_⟩
  · have q := layNew_ris D.2.2 D.1 (hashStr w k) (.str k u) r
    refine tail_ris ?_
    split
    · exact q
    · exact q
  · have q : (layNew D.2.2 D.1 (hashStr w k) (.str k u)).2.1.led = true := (layNew_led D.2.2 D.1 (hashStr w k) (.str k u)).trans z
    refine tail_led ?_
    split
    · exact q
    · exact q
theorem add_old {o : Addr} {T : String} {D : SD} {l : List Str} {k : Str} {u : Tok} {Q : Bool → Shared → Prop} (at0 : s.heap.get? o = some (sObj T D)) (F : TxOk P w D l) (hk : k ∈ l) (few : l.length < scanBound)
    (q : Q false s) : wpAny (model P w) A (setAddHashed o (.str k u) (hashStr w k)) Q E s := by
  obtain ⟨es, ep, t⟩ := D
  have dat : (sObj T (es, ep, t)).data = .set es ep t := rfl
  have fit : t.fits es.size = true := F.fit
  have els : ElemsOf (strKind P w) es.toList := F.el
  have siz : es.size = l.length := F.sz
  unfold setAddHashed setAddHashedIn
  refine wpAny_holding (wpAny_bind (wpAny_setState_of at0 dat fit ?_))
  dsimp only
  rw [byScan_of rfl (by rw [siz]; exact few) els]
  simp only [↓reduceIte]
  unfold setAddByScan
  refine wpAny_bind ?_
  refine wpAny_bind (wpAny_rule ?_)
  refine wpAny_bind (wpAny_setScan_of (knd := strKind P w) (k := k) (PySem.Froz.is_str k u) at0 dat fit els ?_)
  cases fnd : List.findIdx? (fun e => (strKind P w).is k e.2) es.toList with
  | some j => exact wpAny_pure (wpAny_pure q)
  | none =>
    obtain ⟨e, he, ie⟩ := (F.mem k).mp hk
    have c := List.findIdx?_eq_none_iff.mp fnd e he
    rw [ie] at c
    cases c
/-- the signs of x from place i on go into the set -/
theorem set_update_signs {I : Addr} {fp wr : List Addr} {G : Array GenState → Array GenState → Prop} {St : Nat → Shared → Prop} {R : Result → Shared → Prop} {x : Str}
    (W : WalksS P w A.in1 I fp wr G x.cps.size (SignAt x) St) (o : Addr) (hof : o ∉ fp) (few : x.cps.size + 1 < scanBound) :
    ∀ (k i : Nat) (s : Shared), x.cps.size - i = k → i ≤ x.cps.size → St i s → (∃ D l, s.heap.get? o = some (sObj "set" D) ∧ DOk P w D l ∧ l.length ≤ i ∧ ∀ z, z ∈ l ↔ ∃ c ∈ x.cps.toList.take i, z = sing c) →
      (∀ s', Moved (o :: wr) G s s' → (∃ D l, s'.heap.get? o = some (sObj "set" D) ∧ DOk P w D l ∧ ∀ z, z ∈ l ↔ ∃ c ∈ x.cps.toList, z = sing c) → R (.ok (.ret .none)) s') →
      codeAny (model P w) A (.builtin "set.update.loop" ⟨[.ref o, .ref I], []⟩) R s := by
  have how : o ∉ wr := fun h => hof (W.sub _ h)
  have sub : ∀ b ∈ wr, b ∈ o :: wr := fun b hb => List.mem_cons_of_mem _ hb
  intro k
  induction k with
  | zero =>
    intro i s hk hi st ⟨D, l, at0, dok, hl, mem⟩ hR
    obtain rfl : i = x.cps.size := by omega
    refine codeAny_builtin F.entry_set_update_loop ?_
    rw [Around.under_plainId F.plain_set_update_loop _]
    show wpAny _ A.in1 (pyNext (.ref I) >>= _) _ _ s
    refine wpAny_bind (W.done s _ _ st fun s2 mv => ?_)
    show wpAny _ A.in1 (ret Value.none) _ _ s2
    rw [List.take_of_length_le (by simp)] at mem
    exact wpAny_pure (hR s2 (mv.mono sub) ⟨D, l, mv.heap o _ how at0, dok, mem⟩)
  | succ k ih =>
    intro i s hk hi st ⟨D, l, at0, dok, hl, mem⟩ hR
    have lt : i < x.cps.size := by omega
    refine codeAny_builtin F.entry_set_update_loop ?_
    rw [Around.under_plainId F.plain_set_update_loop _]
    show wpAny _ A.in1 (pyNext (.ref I) >>= _) _ _ s
    refine wpAny_bind (W.item i s _ _ lt st fun v s2 hP st2 mv => ?_)
    obtain ⟨c, u, hc, rfl⟩ := hP
    have at2 := mv.heap o _ how at0
    show wpAny _ A.in1 (holding [Value.str ⟨#[c]⟩ u] (setAdd o (.str ⟨#[c]⟩ u)) >>= _) _ _ s2
    refine wpAny_bind (wpAny_holding ?_)
    unfold setAdd
    refine wpAny_holding ?_
    refine wpAny_bind ((strKind P w).pyHash (k := sing c) (PySem.Froz.is_str _ _) ?_)
    have nxt : x.cps.toList.take (i + 1) = x.cps.toList.take i ++ [c] := by
      rw [List.take_add_one, Array.getElem?_toList, hc]
      rfl
    have mem2 : ∀ l2 : List Str, (∀ z, z ∈ l2 ↔ z ∈ l ∨ z = sing c) → ∀ z, z ∈ l2 ↔ ∃ c ∈ x.cps.toList.take (i + 1), z = sing c := fun l2 h z => by
      rw [h z, mem z, nxt]
      constructor
      · rintro (⟨d, hd, e⟩ | e)
        · exact ⟨d, List.mem_append_left _ hd, e⟩
        · exact ⟨c, by simp, e⟩
      · rintro ⟨d, hd, e⟩
        rcases List.mem_append.mp hd with hd | hd
        · exact .inl ⟨d, hd, e⟩
        · rw [List.mem_singleton.mp hd] at e
          exact .inr e
    by_cases hin : sing c ∈ l
    · refine add_old (s := { s2 with toks := s2.toks + 1 }) at2 dok.1 hin (by omega) ?_
      refine wpAny_pure ⟨plainId_quiet F.plain_set_update_loop _, ih (i + 1) _ (by omega) lt (W.frame _ s2 _ _ st2 (Nat.le_succ _) fun b _ u e => e) ⟨D, l, at2, dok, by omega, mem2 l fun z => ⟨.inl, fun h => h.elim id fun e => e ▸ hin⟩⟩ fun s3 mv3 got => ?_⟩
      exact hR s3 (Moved.trans W.gtrans ((mv.mono sub).then_heap (Nat.le_succ _) fun b u _ e => e) mv3) got
    · refine PySem.Froz.add_x (s := { s2 with toks := s2.toks + 1 }) at2 dok.1 hin (by omega) ?_
      have at3 := PySem.Froz.get_upd (sObj "set" (addTx (hashStr w (sing c)) (.str (sing c) u) D)) at2 rfl
      have oth : ∀ b v, b ≠ o → s2.heap.get? b = some v → (s2.heap.update o (fun _ => sObj "set" (addTx (hashStr w (sing c)) (.str (sing c) u) D))).get? b = some v := fun b v hb e => (Heap.get?_update_other _ _ (Ne.symm hb)).trans e
      refine wpAny_pure ⟨plainId_quiet F.plain_set_update_loop _, ih (i + 1) _ (by omega) lt (W.frame _ s2 _ _ st2 (Nat.le_succ _) fun b hb v e => oth b v (fun (h : b = o) => hof (by rw [← h]; exact hb)) e)
        ⟨_, sing c :: l, at3, dok_add u dok hin, by simp only [List.length_cons]; omega, mem2 _ fun z => by rw [List.mem_cons]; exact Or.comm⟩ fun s3 mv3 got => ?_⟩
      exact hR s3 (Moved.trans W.gtrans ((mv.mono sub).then_heap (Nat.le_succ _) fun b v hb e => oth b v (fun (h : b = o) => hb (by rw [h]; exact List.mem_cons_self ..)) e) mv3) got
theorem set_of_text {x : Str} {u0 : Tok} {R : Value → Shared → Prop}
    (calm : A.handled = none) (few : x.cps.size + 1 < scanBound)
    (nx : ∀ (h2 : Heap) (t2 : Nat), (∃ D l, h2.get? s.heap.objs.size = some (sObj "set" D) ∧ DOk P w D l ∧ ∀ z, z ∈ l ↔ ∃ c ∈ x.cps.toList, z = sing c) →
      (∀ b v, s.heap.get? b = some v → h2.get? b = some v) →
      R (.ref s.heap.objs.size) { s with heap := h2, toks := t2 }) :
    wpAny (model P w) A (call (.type "set") [.str x u0]) R E s := by
  obtain ⟨mc, mt, mro⟩ := F.called_set.mro
  have made := F.called_set.made
  have subd := F.called_set.sub
  refine wpAny_call (codeAny_of_tree ?_)
  show wpAny _ _ (callAny (.type "set") _) _ _ _
  refine wpAny_pure ⟨Code.quiet_builtin _ (by decide +kernel), codeAny_builtin F.entry_type_call ?_⟩
  rw [Around.under_plain (weight_type_call_type "set" [.str x u0] []) rfl]
  have q1 := F.called_set.notType
  have q2 := F.called_set.canCreate
  have q3 := F.typeCall_set_1 (.str x u0)
  repeat (any_goals (first | assumption | wp_step))
  refine codeAny_mono (code_set_led1 (.str x u0) (E := E)
    (Q₁ := fun o s1 => o = .ref s.heap.objs.size ∧ s1 = { s with heap := withNu w s.heap }) ⟨rfl, rfl⟩)
    fun res s1 got => ?_
  cases res with
  | error er => exact got
  | ok fl =>
    cases fl with
    | ret ob =>
      obtain ⟨rfl, rfl⟩ := got
      have at0 : (withNu w s.heap).get? s.heap.objs.size = some (nuSet w) := Heap.get?_push_size _ rfl
      have ty0 : Shared.TypeIs { s with heap := withNu w s.heap } (.ref s.heap.objs.size) "set" := ⟨_, at0, rfl⟩
      have ini := F.called_set.init.lookup
      have bin := F.called_set.init.bind (.ref s.heap.objs.size)
      repeat (any_goals (first | assumption | wp_step))
      refine codeAny_mono (codeAny_call_builtin (R := wants (fun r s2 => r = .none ∧ ∃ h2 t2, s2 = { s with heap := h2, toks := t2 } ∧
          (∃ D l, h2.get? s.heap.objs.size = some (sObj "set" D) ∧ DOk P w D l ∧ ∀ z, z ∈ l ↔ ∃ c ∈ x.cps.toList, z = sing c) ∧
          (∀ b v, s.heap.get? b = some v → h2.get? b = some v)) E)
        F.called_set.init.plain F.entry_set_init (check_set_init_1 ty0 ?_)) fun res2 s2 got2 => ?_
      · have e1 := F.sub_str_set
        have e2 := F.sub_str_frozenset
        have e3 : (Value.type "str" == Value.type "dict") = false := by decide
        unfold Builtin.«set.__init__» noKeywords Builtin.Frozenset.updateFrom
        generalize hpy : pyIter = PY
        wp_walk
        subst hpy
        refine wpAny_pyIter_str fun ob St walk st0 => ?_
        refine wpAny_bind (wpAny_runValue ?_)
        have calm3 : A.in1.in1.in1.handled = none := by simp [calm]
        have big : (withNu w s.heap).objs.size = s.heap.objs.size + 1 := by rw [Heap.size_push]
        have nin : s.heap.objs.size ∉ [(withNu w s.heap).objs.size] := by
          rw [big]
          intro z
          exact absurd (List.mem_singleton.mp z) (Nat.ne_of_lt (Nat.lt_succ_self _))
        refine set_update_signs (walk _ calm3).toS s.heap.objs.size nin few (x.cps.size - 0) 0 _ (by omega) (Nat.zero_le _) st0 ?first ?last
        case first =>
          refine ⟨(#[], 0, .fresh 0 0 (!w.params.followText "set-order")), [], Heap.get?_push_of_some _ at0, ⟨PySem.Froz.TxOk.nil (by rfl), List.nodup_nil, List.Pairwise.nil, ?_⟩, Nat.le_refl _, fun z => by simp⟩
          show _ ∨ (!w.params.followText "set-order") = true
          cases w.params.followText "set-order" with
          | false => exact .inr rfl
          | true => exact .inl rfl
        case last =>
          intro s3 mv got
          obtain ⟨h3, g3, d3, t3, o3⟩ := s3
          have eg : g3 = s.gens := mv.gens
          have ed : d3 = s.drawn := mv.drawn
          have eo : o3 = s.os := mv.os
          subst eg
          subst ed
          subst eo
          show wpAny _ _ _ _ _ _
          refine wpAny_pure ?_
          show wpAny _ _ (ret Value.none) _ _ _
          refine wpAny_pure ⟨rfl, h3, t3, rfl, got, fun b v gb => ?_⟩
          have ltb : b < s.heap.objs.size := Heap.lt_size gb
          refine mv.heap b v (fun z => ?_) (Heap.get?_push_of_some _ (Heap.get?_push_of_some _ gb))
          rcases List.mem_cons.mp z with z | z
          · rw [z] at ltb; exact absurd ltb (Nat.lt_irrefl _)
          · rw [List.mem_singleton, big] at z; rw [z] at ltb; exact absurd ltb (Nat.not_lt.mpr (Nat.le_succ _))
      · cases res2 with
        | error er => exact got2
        | ok fl2 =>
          cases fl2 with
          | ret r =>
            obtain ⟨rfl, h2, t2, rfl, st2, kp⟩ := got2
            repeat (any_goals (first | assumption | wp_step))
            exact nx _ _ st2 kp
          | _ => exact got2.elim
    | _ => exact got.elim
/-- sorted of such a set -/
theorem sorted_signs {a : Addr} {D : SD} {l : List Str} {Q : Value → Shared → Prop} (at0 : s.heap.get? a = some (sObj "set" D)) (F : DOk P w D l) (calm : A.handled = none) (h64 : l.length < 64)
    (nx : ∀ s2 p (out : Array Value) (c : Nat) (ys : List Str), (∀ b v, s.heap.get? b = some v → s2.heap.get? b = some v) → s2.gens = s.gens → s2.os = s.os → s.heap.objs.size ≤ p →
      s2.heap.get? p = some (seqObj "list" out c) → StrsAre out.toList ys → ys.Perm l → sortedS ys = true → Q (.ref p) s2) :
    wpAny (model P w) A (call (.builtin "sorted") [.ref a]) Q E s := by
  obtain ⟨f, nd, ris, led⟩ := F
  obtain ⟨es, ep, t⟩ := D
  have siz : es.size = l.length := f.sz
  have els : ElemsOf (strKind P w) es.toList := f.el
  have fit : t.fits es.size = true := f.fit
  have mm : ∀ z : Str, z ∈ l ↔ ∃ e ∈ es.toList, (strKind P w).is z e.2 = true := f.mem
  refine Calls.call_function_entry kind_sorted plain_sorted entry_sorted (args_sorted1 _) ?_
  unfold Builtin.«sorted»
  refine wpAny_bind (m := checkCount "sorted" 1 1 _) (wpAny_pure ?_)
  refine wpAny_bind (collect_set (A := A.in1) (s := s) (a := a) (es := es) (ep := ep) (t := t) calm ⟨_, at0, rfl, rfl⟩ fit (by rw [siz]; exact Nat.lt_trans h64 (by decide)) ris led fun s1 vs k1 hz g1 o1 pm => ?_)
  have vl : vs.length = l.length := by rw [pm.length_eq, List.length_map, Array.length_toList]; exact siz
  have strsV : ∀ v ∈ vs, ∃ z tk, v = Value.str z tk ∧ z ∈ l := fun v hv => by
    obtain ⟨e, he, q⟩ := List.mem_map.mp (pm.mem_iff.mp hv)
    obtain ⟨⟨z, h1, _⟩, _⟩ := els e he
    obtain ⟨tk, e1⟩ := Value.isStrOf_shape (x := z) (v := e.2) h1
    exact ⟨z, tk, by rw [← q]; exact e1, (mm z).mpr ⟨e, he, h1⟩⟩
  have sa : ∀ us : List Value, (∀ v ∈ us, ∃ z tk, v = Value.str z tk ∧ z ∈ l) → StrsAre us (us.map PyProof.Rows.strOf) := by
    intro us
    induction us with
    | nil => exact fun _ => .nil
    | cons v us ih =>
      intro h
      obtain ⟨z, tk, rfl, _⟩ := h v List.mem_cons_self
      exact .cons z tk (ih fun y hy => h y (List.mem_cons_of_mem _ hy))
  have pk : (vs.map PyProof.Rows.strOf).Perm l := by
    refine perm_sub nd (fun z hz => ?_) (by rw [List.length_map, vl]; exact Nat.le_refl _)
    obtain ⟨e, he, h1⟩ := (mm z).mp hz
    obtain ⟨tk, e1⟩ := Value.isStrOf_shape (x := z) (v := e.2) h1
    refine List.mem_map.mpr ⟨e.2, pm.mem_iff.mpr (List.mem_map.mpr ⟨e, he, rfl⟩), ?_⟩
    rw [e1]
    rfl
  have hS := sa vs strsV
  refine wpAny_bind (wpAny_newList ?_ (by rw [vl, sizeLine_eq]; omega))
  have hoL : (s1.heap.push (seqObj "list" vs.toArray 0)).get? s1.heap.objs.size = some (seqObj "list" vs.toArray 0) := Heap.get?_push_size _ rfl
  refine wpAny_bind (wpAny_holding (wpAny_call_entry slot_list_sort ⟨_, hoL, rfl⟩ entry_list_sort
    (list_sort_treeK strKind_oneLt hoL hS.keysOf (fun v₁ v₂ rest e => keyKind_strs (by rw [← e]; exact hS)) (by rw [vl]; exact h64) fun st2 hp hs => ⟨_, rfl, ?_⟩) (args_list_sort _)))
  obtain ⟨ys, b1, b2, b3⟩ := sorted_out_str hS hp hs
  obtain ⟨c, hc⟩ := sortedHeap_at (vs := vs) (out := (arrOf st2).map (·.2)) hoL
  refine wpAny_pure ⟨_, rfl, nx _ s1.heap.objs.size _ c ys (fun b u e => ?_) g1 o1 hz hc b1 (b2.trans pk) b3⟩
  have old := k1 b u e
  have ltb := Heap.lt_size old
  show (sortedHeap (s1.heap.push (seqObj "list" vs.toArray 0)) s1.heap.objs.size vs _).get? b = some u
  rw [sortedHeap_old (Nat.ne_of_lt ltb) (by rw [size_push']; exact Nat.lt_succ_of_lt ltb)]
  exact Heap.get?_push_of_some _ old
end
/-- the set of the signs of a text, at a -/
def SgnO (P : Program) (w : World) (a : Addr) (x : Str) : HO := .ext fun h => ∃ D l, h.get? a = some (sObj "set" D) ∧ DOk P w D l ∧ ∀ z, z ∈ l ↔ ∃ c ∈ x.cps.toList, z = sing c
section
variable {X : Cx}
theorem nodup_short {l : List Str} {x : Str} (hn : l.Nodup) (hm : ∀ z, z ∈ l ↔ ∃ c ∈ x.cps.toList, z = sing c) : l.length ≤ x.cps.size := by
  have : ∀ {xs ms : List Str}, xs.Nodup → (∀ x ∈ xs, x ∈ ms) → xs.length ≤ ms.length := by
    intro xs
    induction xs with
    | nil => intro _ _ _; exact Nat.zero_le _
    | cons y xs ih =>
      intro ms hd hs
      have h1 := ih (ms := ms.erase y) (List.nodup_cons.mp hd).2 fun z hz => (List.mem_erase_of_ne (fun (e : z = y) => (List.nodup_cons.mp hd).1 (by rw [← e]; exact hz))).mpr (hs z (List.mem_cons_of_mem _ hz))
      have h2 := List.length_erase_of_mem (hs y (List.mem_cons_self ..))
      have h3 : 0 < ms.length := List.length_pos_iff.mpr (List.ne_nil_of_mem (hs y (List.mem_cons_self ..)))
      simp only [List.length_cons]
      omega
  have h := this (ms := x.cps.toList.map sing) hn fun z hz => by
    obtain ⟨c, hc, e⟩ := (hm z).mp hz
    exact List.mem_map.mpr ⟨c, hc, e.symm⟩
  rwa [List.length_map, Array.length_toList] at h
/-- set(x) -/
def rSetX (P : Program) (w : World) : List V → Hp → VK → Prop := fun vs H Q => ∃ x : Str, vs = [V.str x] ∧ x.length < 4000 ∧ ∀ p, H p = none → Q (.ref p) (upd H p (SgnO P w p x))
theorem cr_setX (hc : X.calm = true) : CallR X (.type "set") (rSetX X.prog X.w) := by
  intro pins s σ H vs us Q I r h
  obtain ⟨x, rfl, hl, q⟩ := h
  obtain ⟨u, rfl, rx⟩ := Vals.one r
  obtain ⟨t, rfl⟩ := rx
  refine set_of_text (I.ok.hd hc) (by have : x.cps.size < 4000 := hl; unfold scanBound; omega) fun h2 t2 st kp => ?_
  have ok : ∀ G : Hp, ObjOk X.prog X.w G h2 s.heap.objs.size (SgnO X.prog X.w s.heap.objs.size x) := fun G => by
    have ⟨D, l, a0, _⟩ := st
    exact ⟨st, ⟨_, a0⟩, fun h3 h4 p k => p.elim fun D q => q.elim fun l z => ⟨D, l, k _ z.1, z.2⟩⟩
  exact ⟨.ref _, upd H s.heap.objs.size (SgnO X.prog X.w s.heap.objs.size x), I.laid (t' := t2) kp (Nat.le_refl _) (ok _), rfl, q _ (I.hok.fresh (Nat.le_refl _))⟩
/-- sorted(set(x)) -/
def rSrtX (P : Program) (w : World) : List V → Hp → VK → Prop := fun vs H Q => ∃ (a : Addr) (x : Str), vs = [V.ref a] ∧ H a = some (SgnO P w a x) ∧ x.length < 64 ∧
  ∀ (ys : List Str) (p : Addr), ys.Nodup → sortedS ys = true → (∀ z, z ∈ ys ↔ ∃ c ∈ x.cps.toList, z = sing c) → H p = none → Q (.ref p) (upd H p (.lst (ys.map V.str)))
theorem cr_srtX (hc : X.calm = true) : CallR X (.builtin "sorted") (rSrtX X.prog X.w) := by
  intro pins s σ H vs us Q I r h
  obtain ⟨a, x, rfl, ha, h64, q⟩ := h
  obtain ⟨D, l, at0, dok, mem⟩ := (I.hok a _ ha).1
  rw [Vals.ref1 r]
  have hll : l.length < 64 := Nat.lt_of_le_of_lt (nodup_short dok.2.1 mem) h64
  refine sorted_signs at0 dok (I.ok.hd hc) hll fun s2 p out c ys k g o hp hg hS pm hs => ?_
  have sz : (ys.map V.str).length ≤ sizeLine := by rw [List.length_map, pm.length_eq, sizeLine_eq]; omega
  have free : H p = none := I.hok.fresh hp
  have J : Inv X pins σ (upd H p (.lst (ys.map V.str))) { s with heap := s2.heap, gens := s2.gens, drawn := s2.drawn, toks := s2.toks } :=
    I.call (ch := []) (Un.laid k hp free) (I.hok.laid k hp ⟨sz, out.toList, c, vals_of_strs hS, hg⟩) (by rw [g]; exact I.bare) (fun _ z => nomatch z)
  have e : s2 = { s with heap := s2.heap, gens := s2.gens, drawn := s2.drawn, toks := s2.toks } := by
    cases s2
    cases s
    cases o
    rfl
  rw [e]
  exact ⟨.ref p, _, J, rfl, q ys p (pm.nodup_iff.mpr dok.2.1) hs (fun z => by rw [pm.mem_iff, mem z]) free⟩
variable {W : WX} {e : Expr} {te : AE}
theorem rpl_strs {K : PySem.W.Frag} {G : Hp} : ∀ ys : List Str, RpL K G (ys.map .str) (ys.map V.str)
  | [] => RpL.nil
  | y :: ys => RpL.cons (rp_str.mpr rfl) (rpl_strs ys)
def kSrtX (Q : KD) : KD := fun d ρ1 => match d with
  | .str x => x.length < 64 ∧ ∀ ys : List Str, ys.Nodup → sortedS ys = true → (∀ z, z ∈ ys ↔ ∃ c ∈ x.cps.toList, z = sing c) → Q (.lst (ys.map .str)) ρ1
  | _ => False
def aSrtX (te : AE) : AE := fun ρ Q Z => te ρ (kSrtX Q) Z
theorem e_srtX {p p2 q pos : Pos} (hc : X.calm = true) (hg : Gl X "sorted") (hm : X.mg "sorted" = none) (hg2 : Gl X "set") (hm2 : X.mg "set" = none) (he : EX X W e te)
    (n1 : starEach [.Call (.Name "set" p2) [e] [] q] X.env = (false, eval (.Call (.Name "set" p2) [e] [] q) X.env) :: starEach [] X.env := by rfl) (n2 : starEach [e] X.env = (false, eval e X.env) :: starEach [] X.env := by rfl)
    (l1 : (backTo pos (starEach [] X.env)).any (·.1) = false := by rfl) (l2 : (backTo q (starEach [] X.env)).any (·.1) = false := by rfl) :
    EX X W (.Call (.Name "sorted" p) [.Call (.Name "set" p2) [e] [] q] [] pos) (aSrtX te) := by
  obtain ⟨T, pe, r⟩ := he.ex
  refine ⟨_, pe_callB (cr_srtX hc) hg hm (by decide +kernel) (pa_cons (pe_callTy (cr_setX hc) hg2 hm2 (by decide +kernel) (pa_cons pe pa_nil n2) (by decide) (by decide) n2 l2) pa_nil n1) (by decide) (by decide) n1 l1, fun P G F ρ σ H Q Z Q' R h hz hq => ?_⟩
  refine r P G F ρ σ H _ Z _ R h hz fun G1 ρ1 H1 v d R1 s1 rv q => ?_
  unfold kSrtX at q
  split at q
  · rename_i x0
    obtain ⟨h64, q⟩ := q
    have e1 := rp_str.mp rv
    subst e1
    refine ⟨x0, rfl, Nat.lt_trans h64 (by decide), fun p1 hp1 => ?_⟩
    have R2 := R1.alloc (o := SgnO X.prog X.w p1 x0) hp1
    refine ⟨p1, _, rfl, upd_same, h64, fun ys p2 nd srt mem hp2 => ?_⟩
    have g := Grow.new (o := .lst (ys.map V.str)) R2.sg hp2
    exact hq _ ρ1 _ _ (.lst (ys.map .str)) (R2.grow g) (s1.trans g.j) (rp_lst.mpr ⟨p2, _, rfl, SqL.of upd_same, rpl_strs ys⟩) (q ys nd srt mem)
  · exact q.elim
@[simp ↓] theorem q_aSrtX {ρ : List Sv} {Q : KD} {Z : KX} : aSrtX te ρ Q Z = te ρ (kSrtX Q) Z := keep rfl
@[simp ↓] theorem q_kSrtX {ρ : List Sv} {Q : KD} {x : Str} : kSrtX Q (.str x) ρ = (x.length < 64 ∧ ∀ ys : List Str, ys.Nodup → sortedS ys = true → (∀ z, z ∈ ys ↔ ∃ c ∈ x.cps.toList, z = sing c) → Q (.lst (ys.map .str)) ρ) := keep rfl
end
end VS
/-! VSZ: any expression that only reads, as a view; lists of lists of one's own: made by comprehensions and displays, walked by names for their lists, changed through such names and by places. -/
namespace VS
open PySem PySem.Spec PyProof.Rows L2
/-! ### all slots as data -/
def Tr.all : Tr → Sv
  | .hole _ => .un
  | .part _ => .un
  | t => .dat t.strip
def Sv.all : Sv → Sv
  | .dat d => .dat d
  | .own _ xs => .dat (.lst xs)
  | .tre t => t.all
  | _ => .un
section
variable {K : PySem.W.Frag} {P : List (Nat × Addr)} {G F : Hp} {ρ : List Sv} {σ : St} {H : Hp}
theorem all_dat {s : Sv} {d : D} (h : s.all = .dat d) : s = .dat d ∨ (∃ b xs, s = .own b xs ∧ d = .lst xs) ∨ ∃ t, s = .tre t ∧ t.shut ∧ d = t.strip := by
  cases s with
  | un => cases h
  | dat e => cases h; exact .inl rfl
  | own b xs => cases h; exact .inr (.inl ⟨b, xs, rfl, rfl⟩)
  | pr _ _ => cases h
  | tre t => cases t <;> first | (cases h; done) | (cases h; exact .inr (.inr ⟨_, rfl, trivial, rfl⟩))
theorem all_own {s : Sv} {b : Bool} {xs : List D} (h : s.all = .own b xs) : False := by
  cases s <;> first | (cases h; done) | skip
  rename_i t
  cases t <;> cases h
theorem all_tre {s : Sv} {t : Tr} (h : s.all = .tre t) : False := by
  cases s <;> first | (cases h; done) | skip
  rename_i t
  cases t <;> cases h
theorem get_all {i : Nat} {s : Sv} (h : (ρ.map Sv.all)[i]? = some s) : ∃ u, ρ[i]? = some u ∧ u.all = s := by
  rw [List.getElem?_map] at h
  cases e : ρ[i]? with
  | none => rw [e] at h; cases h
  | some u => rw [e] at h; exact ⟨u, rfl, Option.some.inj h⟩
theorem Rel.all (R : Rel K P G F ρ σ H) : Rel K [] H (fun _ => none) (ρ.map Sv.all) σ H := by
  have no : ∀ {i : Nat} {b : Bool} {xs : List D}, ¬ (ρ.map Sv.all)[i]? = some (.own b xs) := fun h => by
    obtain ⟨u, _, h2⟩ := get_all h
    exact all_own h2
  have nt : ∀ {i : Nat} {t : Tr}, ¬ (ρ.map Sv.all)[i]? = some (.tre t) := fun h => by
    obtain ⟨u, _, h2⟩ := get_all h
    exact all_tre h2
  refine ⟨by rw [List.length_map]; exact R.len, Same.refl _, (fun _ _ z => nomatch z), (fun _ _ z => nomatch z), fun i d h => ?_, fun i b xs h => (no h).elim, fun i j a b xs c ys h => (no h).elim, (fun p hp => nomatch hp), fun i xs h => (no h).elim, ⟨fun i t h => (nt h).elim, fun i t j c ys a h => (nt h).elim, fun i t j u h => (nt h).elim⟩⟩
  obtain ⟨u, h1, h2⟩ := get_all h
  rcases all_dat h2 with rfl | ⟨b, xs, rfl, rfl⟩ | ⟨t, rfl, ht, rfl⟩
  · obtain ⟨v, g1, g2⟩ := R.dat i d h1
    exact ⟨v, g1, g2.mono R.sg⟩
  · obtain ⟨a, vs, g1, g2, g3, g4, g5⟩ := R.own i b xs h1
    exact ⟨_, g1, rp_lst.mpr ⟨a, vs, rfl, SqL.of g2, g5.mono R.sg⟩⟩
  · obtain ⟨v, g1, g2, _, _⟩ := R.tr.got i t h1
    exact ⟨v, g1, (g2.tr ht).rp R.sg fun _ _ => rfl⟩
end
def kAllV (Q : D → Prop) : KD := fun d _ => Q d
def vAll (te : AE) : AV := fun ρ Q => te (ρ.map Sv.all) (kAllV Q) noX
@[simp ↓] theorem q_vAll {te : AE} {ρ : List Sv} {Q : D → Prop} : vAll te ρ Q = te (ρ.map Sv.all) (kAllV Q) noX := keep rfl
@[simp ↓] theorem q_kAllV {ρ : List Sv} {Q : D → Prop} {d : D} : kAllV Q d ρ = Q d := keep rfl
@[simp] theorem all_s1 {d : D} : (Sv.dat d).all = .dat d := rfl
@[simp] theorem all_s2 {b : Bool} {xs : List D} : (Sv.own b xs).all = .dat (.lst xs) := rfl
@[simp] theorem all_s3 : Sv.un.all = .un := rfl
@[simp] theorem all_s4 {a : Addr} {ts : List Tr} : (Sv.tre (.lst a ts)).all = .dat (Tr.lst a ts).strip := rfl
@[simp] theorem all_s5 {a : Addr} : (Sv.tre (.hole a)).all = .un := rfl
@[simp] theorem all_s6 {a : Addr} {c : Str} {ns : List Str} {ts : List Tr} : (Sv.tre (.ob a c ns ts)).all = .dat (Tr.ob a c ns ts).strip := rfl
section
variable {K : PySem.W.Frag} {P : List (Nat × Addr)} {G G' F F' : Hp} {ρ : List Sv} {σ : St} {H H' : Hp}
/-- lists of their own, standing in the frame -/
def LL (K : PySem.W.Frag) (G F Fx : Hp) : List (Addr × List D) → List V → Prop
  | [], us => us = []
  | p :: ps, us => ∃ r, us = .ref p.1 :: r ∧ F p.1 = none ∧ (∃ vs, Fx p.1 = some (.lst vs) ∧ RpL K G p.2 vs) ∧ LL K G F Fx ps r
theorem LL.mono (s : Same G G') {Fx Fy : Hp} : ∀ {ps : List (Addr × List D)} {us : List V}, (∀ p ∈ ps, ∀ o, Fx p.1 = some o → Fy p.1 = some o) → LL K G F Fx ps us → LL K G' F Fy ps us
  | [], us, _, h => h
  | p :: ps, us, k, h => by
    obtain ⟨r, h1, h2, ⟨vs, h3, h4⟩, h5⟩ := h
    exact ⟨r, h1, h2, ⟨vs, k p (List.mem_cons_self ..) _ h3, h4.mono s⟩, h5.mono s fun q hq => k q (List.mem_cons_of_mem _ hq)⟩
theorem LL.length {Fx : Hp} : ∀ {ps : List (Addr × List D)} {us : List V}, LL K G F Fx ps us → ps.length = us.length
  | [], us, h => by rw [show us = [] from h]; rfl
  | p :: ps, us, h => by
    obtain ⟨r, h1, _, _, h5⟩ := h
    rw [h1, List.length_cons, List.length_cons, h5.length]
theorem LL.mem {Fx : Hp} : ∀ {ps : List (Addr × List D)} {us : List V} {p : Addr × List D}, LL K G F Fx ps us → p ∈ ps → F p.1 = none ∧ ∃ vs, Fx p.1 = some (.lst vs) ∧ RpL K G p.2 vs
  | q :: ps, us, p, h, hp => by
    obtain ⟨r, h1, h2, h3, h5⟩ := h
    rcases List.mem_cons.mp hp with rfl | hp
    · exact ⟨h2, h3⟩
    · exact h5.mem hp
def llT (p : Addr × List D) : Tr := .lst p.1 (p.2.map .leaf)
end
/-! ### x = [o for .. in ..], o a list of its own -/
def kCompT2 (next : List (Addr × List D) → List Sv → Prop) (acc : List (Addr × List D)) (ρ : List Sv) (vs : List Nat) : List D → List Sv → Prop := fun xs ρ3 => acc.length < sizeLine ∧ ∀ b, next (acc ++ [(b, xs)]) (restA ρ ρ3 vs)
def aCompT (g : AG) (tt : AT) (to : AO) (vs : List Nat) (Q : List (Addr × List D) → List Sv → Prop) : List D → List (Addr × List D) → List Sv → Prop
  | [], acc, ρ => Q acc ρ
  | d :: ds, acc, ρ => g d (wipeA ρ vs) fun ρ1 => tt ρ1 (fun b ρ2 => if b = true then to ρ2 (kCompT2 (aCompT g tt to vs Q ds) acc ρ vs) noX else aCompT g tt to vs Q ds acc (restA ρ ρ2 vs)) noX
def kSetTC (E : AEnds) (i : Nat) : List (Addr × List D) → List Sv → Prop := fun ps ρ1 => okSet ρ1 i ∧ ∀ a, E.nx (ρ1.set i (.tre (.lst a (ps.map llT))))
def iSetTC (g : AG) (tt : AT) (to : AO) (vs : List Nat) (E : AEnds) (i : Nat) : List D → List Sv → Prop := fun ds ρ1 => (∀ i ∈ vs, noOwn ρ1 i) ∧ aCompT g tt to vs (kSetTC E i) ds [] ρ1
def sSetTC (ti : AI) (g : AG) (tt : AT) (to : AO) (vs : List Nat) (i : Nat) : AS := fun E ρ => ti ρ (iSetTC g tt to vs E i) E.xx
section
variable {E : AEnds} {g : AG} {tt : AT} {to : AO} {vs : List Nat} {ti : AI} {i : Nat} {ρ : List Sv} {Q : List (Addr × List D) → List Sv → Prop} {acc : List (Addr × List D)} {d : D} {ds xs : List D}
@[simp ↓] theorem q_sSetTC : sSetTC ti g tt to vs i E ρ = ti ρ (iSetTC g tt to vs E i) E.xx := keep rfl
@[simp ↓] theorem q_iSetTC : iSetTC g tt to vs E i ds ρ = ((∀ i ∈ vs, noOwn ρ i) ∧ aCompT g tt to vs (kSetTC E i) ds [] ρ) := keep rfl
@[simp ↓] theorem q_kSetTC : kSetTC E i acc ρ = (okSet ρ i ∧ ∀ a, E.nx (ρ.set i (.tre (.lst a (acc.map llT))))) := keep rfl
@[simp ↓] theorem q_kCompT2 {next : List (Addr × List D) → List Sv → Prop} {ρ3 : List Sv} : kCompT2 next acc ρ vs xs ρ3 = (acc.length < sizeLine ∧ ∀ b, next (acc ++ [(b, xs)]) (restA ρ ρ3 vs)) := keep rfl
end
end VS
/-! VS0: lists of lists of one's own: walked by names, changed through names and by places; [o, o] as a tree. -/
namespace VS
open PySem PySem.Spec PyProof.Rows L2
section
variable {K : PySem.W.Frag} {P : List (Nat × Addr)} {G G' F F' : Hp} {ρ : List Sv} {σ : St} {H H' : Hp}
theorem footL_edit {u' : Tr} : ∀ {ts : List Tr} {n : Nat} {u : Tr}, ts[n]? = some u → (∀ x ∈ u'.foot, x ∈ u.foot) → (u.foot.Nodup → u'.foot.Nodup) → (∀ x ∈ Tr.footL (ts.set n u'), x ∈ Tr.footL ts) ∧ ((Tr.footL ts).Nodup → (Tr.footL (ts.set n u')).Nodup)
  | [], _, _, e, _, _ => by simp at e
  | t :: ts, 0, u, e, h1, h2 => by
    have e' : t = u := Option.some.inj e
    subst e'
    rw [List.set_cons_zero, footL_cons, footL_cons]
    refine ⟨fun x hx => ?_, fun nd => ?_⟩
    · rcases List.mem_append.mp hx with hx | hx
      · exact List.mem_append_left _ (h1 x hx)
      · exact List.mem_append_right _ hx
    · have q := List.nodup_append.mp nd
      exact List.nodup_append.mpr ⟨h2 q.1, q.2.1, fun x hx y hy => q.2.2 x (h1 x hx) y hy⟩
  | t :: ts, n + 1, u, e, h1, h2 => by
    obtain ⟨k1, k2⟩ := footL_edit (n := n) (ts := ts) e h1 h2
    rw [List.set_cons_succ, footL_cons, footL_cons]
    refine ⟨fun x hx => ?_, fun nd => ?_⟩
    · rcases List.mem_append.mp hx with hx | hx
      · exact List.mem_append_left _ hx
      · exact List.mem_append_right _ (k1 x hx)
    · have q := List.nodup_append.mp nd
      exact List.nodup_append.mpr ⟨q.1, k2 q.2.1, fun x hx y hy => q.2.2 x hx y (k1 y hy)⟩
/-- a list within the tree, as it stands -/
theorem Rel.kid (R : Rel K P G F ρ σ H) {i c : Nat} {a b : Addr} {ts us : List Tr} (e : ρ[i]? = some (.tre (.lst a ts))) (ec : ts[c]? = some (.lst b us)) :
    ∃ vs ws, σ[i]? = some (some (.ref a)) ∧ H a = some (.lst vs) ∧ ts.length = vs.length ∧ vs[c]? = some (.ref b) ∧ H b = some (.lst ws) ∧ TRL K G H us ws ∧ b ∉ Tr.footL us ∧ (Tr.footL us).Nodup := by
  obtain ⟨v, g1, g2, g3, g4⟩ := R.tr.got i _ e
  obtain ⟨vs, rfl, g5, g6⟩ := tr_lst.mp g2
  obtain ⟨w, k1, k2, _⟩ := TRL.put g6 ec
  obtain ⟨ws, rfl, k3, k4⟩ := tr_lst.mp k2
  rw [foot_lst] at g3
  have nd : ∀ {ts : List Tr} {c : Nat}, (Tr.footL ts).Nodup → ts[c]? = some (.lst b us) → (b :: Tr.footL us).Nodup := by
    intro ts
    induction ts with
    | nil => intro c _ e; simp at e
    | cons t ts ih =>
      intro c n e
      rw [footL_cons] at n
      cases c with
      | zero =>
        rw [show t = .lst b us from Option.some.inj e, foot_lst] at n
        exact (List.nodup_append.mp n).1
      | succ c => exact ih (List.nodup_append.mp n).2.1 e
  have n2 := List.nodup_cons.mp (nd (List.nodup_cons.mp g3).2 ec)
  exact ⟨vs, ws, g1, g5, g6.length, k1, k3, k4, n2.1, n2.2⟩
theorem Rel.editKid (R : Rel K P G F ρ σ H) {i c : Nat} {a b : Addr} {ts us us' : List Tr} {ws' : List V} (e : ρ[i]? = some (.tre (.lst a ts))) (ec : ts[c]? = some (.lst b us)) (sub : ∀ x ∈ Tr.footL us', x ∈ Tr.footL us) (nd : (Tr.footL us).Nodup → (Tr.footL us').Nodup)
    (h : TRL K G (upd H b (.lst ws')) us' ws') : Rel K P G F (ρ.set i (.tre (.lst a (ts.set c (.lst b us'))))) σ (upd H b (.lst ws')) := by
  obtain ⟨v, g1, g2, g3, g4⟩ := R.tr.got i _ e
  obtain ⟨vs, rfl, g5, g6⟩ := tr_lst.mp g2
  obtain ⟨_, ws, _, _, _, _, k5, k6, k7, k8⟩ := R.kid e ec
  obtain ⟨w, m1, m2, m3⟩ := TRL.put g6 ec
  obtain ⟨_, rfl, _, _⟩ := tr_lst.mp m2
  have g3' := g3
  rw [foot_lst] at g3'
  have n3 := List.nodup_cons.mp g3'
  have hb : b ∈ Tr.footL ts := mem_footL ec (by rw [foot_lst]; exact List.mem_cons_self ..)
  have ab : a ≠ b := fun z => n3.1 (by rw [z]; exact hb)
  have fe := footL_edit (u' := .lst b us') ec (fun x hx => by
    rw [foot_lst] at hx ⊢
    rcases List.mem_cons.mp hx with z | hx
    · rw [z]; exact List.mem_cons_self ..
    · exact List.mem_cons_of_mem _ (sub x hx)) (fun n => by
    rw [foot_lst] at n ⊢
    exact List.nodup_cons.mpr ⟨fun z => (List.nodup_cons.mp n).1 (sub _ z), nd (List.nodup_cons.mp n).2⟩)
  refine R.updT e g1 (fun c' o hb' hn => ?_) (trt_lst (tr_lst.mpr ⟨vs, rfl, by rw [upd_ne ab]; exact g5, m3 (Same.refl _) (fun x hx hn => upd_ne fun z => hn (by rw [z, foot_lst]; exact List.mem_cons_self ..)) n3.2 (tr_lst.mpr ⟨ws', rfl, upd_same, h⟩)⟩)) ?_ fun x hx => .inl ?_
  · rw [upd_ne fun z => hn (by rw [foot_lst, z]; exact List.mem_cons_of_mem _ hb)]
    exact hb'
  · rw [foot_lst]
    exact List.nodup_cons.mpr ⟨fun z => n3.1 (fe.1 _ z), fe.2 n3.2⟩
  · rw [foot_lst] at hx ⊢
    rcases List.mem_cons.mp hx with z | hx
    · rw [z]; exact List.mem_cons_self ..
    · exact List.mem_cons_of_mem _ (fe.1 x hx)
end
/-! ### for n in x[lo:hi], n a name for list after list of x -/
def Tr.adr : Tr → Addr
  | .lst b _ => b
  | _ => 0
def Tr.isL : Tr → Prop
  | .lst _ _ => True
  | _ => False
def cutA (bs : List Addr) (lo hi : Option Int) : List Addr := (bs.drop (HT.sIx bs.length 0 lo)).take (HT.sIx bs.length bs.length hi - HT.sIx bs.length 0 lo)
def kEndH (n : Nat) (D : AEnds) : List Sv → Prop := fun ρ => okSet ρ n ∧ D.nx (ρ.set n .un)
def aLoopH (n : Nat) (tb : AS) (D : AEnds) : List Addr → List Sv → Prop
  | [], ρ => okSet ρ n ∧ D.nx (ρ.set n .un)
  | b :: bs, ρ => okSet ρ n ∧ tb { D with nx := aLoopH n tb D bs, ct := aLoopH n tb D bs, bk := kEndH n D } (ρ.set n (.tre (.hole b)))
def kForH2 (E : AEnds) (i n : Nat) (tb : AS) (l : Option Int) : Option Int → List Sv → Prop := fun u ρ3 => match ρ3[i]? with
  | some (.tre (.lst _ ts)) => (∀ t ∈ ts, t.isL) ∧ aLoopH n tb E (cutA (ts.map Tr.adr) l u) ρ3
  | _ => False
def kForH1 (E : AEnds) (i n : Nat) (th : AP) (tb : AS) : Option Int → List Sv → Prop := fun l ρ2 => th ρ2 (kForH2 E i n tb l) E.xx
def sForH (i n : Nat) (tl th : AP) (tb : AS) : AS := fun E ρ => isTre ρ i ∧ tl ρ (kForH1 E i n th tb) E.xx
section
variable {X : Cx} {W : WX} {pos p1 p2 p3 : Pos} {e ek : Expr} {te tk : AE}
/-! ### n[k] = e, n a name for a list of x -/
def kPutH2 (E : AEnds) (i n : Nat) (d : D) : KD := fun k ρ2 => match k, ρ2[i]?, ρ2[n]? with
  | .int k', some (.tre (.lst a ts)), some (.tre (.hole b)) => ∃ c us m, ts[c]? = some (.lst b us) ∧ ixN us.length k' = some m ∧ E.nx (ρ2.set i (.tre (.lst a (ts.set c (.lst b (us.set m (.leaf d)))))))
  | _, _, _ => False
def isHole (ρ : List Sv) (n : Nat) : Prop := match ρ[n]? with
  | some (.tre (.hole _)) => True
  | _ => False
theorem isHole.ex {ρ : List Sv} {n : Nat} (h : isHole ρ n) : ∃ a, ρ[n]? = some (.tre (.hole a)) := by
  unfold isHole at h
  split at h
  · rename_i a e; exact ⟨a, e⟩
  · exact h.elim
def kPutH1 (i n : Nat) (tk : AE) (E : AEnds) : KD := fun d ρ1 => isHole ρ1 n ∧ tk ρ1 (kPutH2 E i n d) E.xx
def sPutH (i n : Nat) (te tk : AE) : AS := fun E ρ => te ρ (kPutH1 i n tk E) E.xx
/-- n[k], n a name for a list of x -/
def kHIx (ρ : List Sv) (i n : Nat) (Q : D → Prop) : D → Prop := fun k => match k, ρ[i]?, ρ[n]? with
  | .int k', some (.tre (.lst a ts)), some (.tre (.hole b)) => ∃ (c : Nat) (us : List Tr) (d : D), ts[c]? = some (Tr.lst b us) ∧ atI us k' = some (Tr.leaf d) ∧ Q d
  | _, _, _ => False
def vHIx (i n : Nat) (vk : AV) : AV := fun ρ Q => isHole ρ n ∧ vk ρ (kHIx ρ i n Q)
/-! ### x[j].append(e), x a list of lists -/
def kAppK2 (E : AEnds) (i c : Nat) (b : Addr) : KD := fun d ρ1 => match ρ1[i]? with
  | some (.tre (.lst a ts)) => ∃ us, ts[c]? = some (.lst b us) ∧ us.length < sizeLine ∧ E.nx (ρ1.set i (.tre (.lst a (ts.set c (.lst b (us ++ [.leaf d]))))))
  | _ => False
def kAppK1 (E : AEnds) (ρ : List Sv) (i : Nat) (te : AE) : D → Prop := fun k => match k, ρ[i]? with
  | .int k', some (.tre (.lst _ ts)) => ∃ c b us, ixN ts.length k' = some c ∧ ts[c]? = some (.lst b us) ∧ te ρ (kAppK2 E i c b) E.xx
  | _, _ => False
def sAppK (i : Nat) (vk : AV) (te : AE) : AS := fun E ρ => isTre ρ i ∧ vk ρ (kAppK1 E ρ i te)
/-! ### x = [o1, o2], lists of their own -/
def kSetL2 (E : AEnds) (i : Nat) (xs : List D) : List D → List Sv → Prop := fun ys ρ1 => okSet ρ1 i ∧ ∀ a b c, E.nx (ρ1.set i (.tre (.lst a [.lst b (xs.map .leaf), .lst c (ys.map .leaf)])))
def kSetL1 (E : AEnds) (i : Nat) (to2 : AO) : List D → List Sv → Prop := fun xs ρ1 => to2 ρ1 (kSetL2 E i xs) noX
def sSetL2 (i : Nat) (to1 to2 : AO) : AS := fun E ρ => to1 ρ (kSetL1 E i to2) E.xx
theorem s_setL2 {i : Nat} {x : Str} {px : Pos} {e1 e2 : Expr} {to1 to2 : AO} (hN : X.N.Nodup) (h1 : EO X W e1 to1) (h2 : EO X W e2 to2) (hi : X.N[i]? = some x := by rfl) (hx : Loc X.env.scope x := by first | exact .inl rfl | exact .inr rfl)
    (hs : swapsWith (.List [e1, e2] p1) (some (.Name x px)) pos.line X.env = pure false := by rfl)
    (hf : X.fn x = true ∨ X.env.scope.names.lookup x = some .local := by first | exact .inl rfl | exact .inr rfl | assumption)
    (s1 : starEach [e1, e2] X.env = (false, eval e1 X.env) :: starEach [e2] X.env := by rfl) (s2 : starEach [e2] X.env = (false, eval e2 X.env) :: starEach [] X.env := by rfl) : SX X W (.Assign [.Name x px] (.List [e1, e2] p1) pos) (sSetL2 i to1 to2) := by
  obtain ⟨T1, q1, r1⟩ := h1.ex
  obtain ⟨T2, q2, r2⟩ := h2.ex
  refine ⟨_, ps_set hN hi hx (pe_lst (pa_cons q1 (pa_cons q2 pa_nil s2) s1)) hs hf, fun P G F ρ σ H D D' R h hd => ?_⟩
  refine r1 P G F ρ σ H _ D.xx _ R h (hd.xx σ) fun G1 ρ1 H1 b vs xs R1 t1 b1 b2 b3 b4 b5 q => ?_
  have RF := R1.frameA b1 b2 b4
  refine r2 P G1 (upd F b (.lst vs)) ρ1 σ H1 _ noX _ RF q (fun _ _ _ _ _ _ _ _ _ z => z.elim) fun G2 ρ2 H2 c ws ys R2 t2 c1 c2 c3 c4 c5 ⟨ok, q⟩ => ?_
  have cb : c ≠ b := fun z => by rw [z, upd_same] at c3; cases c3
  have hb2 : H2 b = some (.lst vs) := R2.sf b _ upd_same
  have gb2 : G2 b = none := R2.gf b _ upd_same
  refine ⟨by show (2 : Nat) ≤ sizeLine; decide, fun a ha => ?_⟩
  have nb : NoS ρ2 σ b := NoS.ofF R2 (o := .lst vs) upd_same
  have na := not_own R2 ha
  have ab : a ≠ b := fun z => by rw [z, hb2] at ha; cases ha
  have ac : a ≠ c := fun z => by rw [z, c1] at ha; cases ha
  have fe : (Tr.lst a [.lst b (xs.map .leaf), .lst c (ys.map .leaf)]).foot = [a, b, c] := by rw [foot_lst, footL_cons, footL_cons, foot_lst, foot_lst, footL_leaf, footL_leaf, footL_nil]; rfl
  have sF : Same F (upd F b (.lst vs)) := same_new b3
  have R3 := (R2.weakF sF).alloc (o := .lst [.ref b, .ref c]) ha
  refine hd.nx G2 _ _ _ (R3.setT ok (trt_lst (tr_lst.mpr ⟨[.ref b, .ref c], rfl, upd_same, trl_cons.mpr ⟨_, _, rfl, tr_lst.mpr ⟨vs, rfl, by rw [upd_ne ab.symm]; exact hb2, trl_leaf.mpr (b5.mono t2)⟩, trl_cons.mpr ⟨_, _, rfl, tr_lst.mpr ⟨ws, rfl, by rw [upd_ne ac.symm]; exact c1, trl_leaf.mpr c5⟩, trl_nil.mpr rfl⟩⟩⟩)) ?_ fun z hz => ?_) (t1.trans t2) (q a b c)
  · rw [fe]; simp [ab, ac, cb.symm]
  · rw [fe] at hz
    have fc : F c = none := by rw [upd_ne cb] at c3; exact c3
    rcases List.mem_cons.mp hz with rfl | hz
    · exact ⟨R2.sg.free ha, sF.free (R2.sf.free ha), na⟩
    · rcases List.mem_cons.mp hz with rfl | hz
      · exact ⟨gb2, b3, nb⟩
      · rw [List.mem_singleton.mp hz]
        exact ⟨c2, fc, c4⟩
end
section
variable {E : AEnds} {ρ : List Sv} {i n c : Nat} {tl th : AP} {tb : AS} {l u : Option Int} {a b : Addr} {ts : List Tr} {te tk : AE} {vk : AV} {Q : D → Prop} {d : D} {to1 to2 : AO} {xs ys : List D} {bs : List Addr}
@[simp ↓] theorem q_sForH : sForH i n tl th tb E ρ = (isTre ρ i ∧ tl ρ (kForH1 E i n th tb) E.xx) := keep rfl
@[simp ↓] theorem q_kForH1 : kForH1 E i n th tb l ρ = th ρ (kForH2 E i n tb l) E.xx := keep rfl
@[simp ↓] theorem q_kForH2 : kForH2 E i n tb l u ρ = (match ρ[i]? with
  | some (.tre (.lst _ ts)) => (∀ t ∈ ts, t.isL) ∧ aLoopH n tb E (cutA (ts.map Tr.adr) l u) ρ
  | _ => False) := keep rfl
@[simp ↓] theorem q_sPutH : sPutH i n te tk E ρ = te ρ (kPutH1 i n tk E) E.xx := keep rfl
@[simp ↓] theorem q_kPutH1 : kPutH1 i n tk E d ρ = (isHole ρ n ∧ tk ρ (kPutH2 E i n d) E.xx) := keep rfl
@[simp ↓] theorem q_kPutH2 {k : D} : kPutH2 E i n d k ρ = (match k, ρ[i]?, ρ[n]? with
  | .int k', some (.tre (.lst a ts)), some (.tre (.hole b)) => ∃ c us m, ts[c]? = some (.lst b us) ∧ ixN us.length k' = some m ∧ E.nx (ρ.set i (.tre (.lst a (ts.set c (.lst b (us.set m (.leaf d)))))))
  | _, _, _ => False) := keep rfl
@[simp ↓] theorem q_vHIx : vHIx i n (vk) ρ Q = (isHole ρ n ∧ vk ρ (kHIx ρ i n Q)) := keep rfl
@[simp ↓] theorem q_kHIx : kHIx ρ i n Q d = (match d, ρ[i]?, ρ[n]? with
  | .int k', some (.tre (.lst a ts)), some (.tre (.hole b)) => ∃ (c : Nat) (us : List Tr) (d : D), ts[c]? = some (Tr.lst b us) ∧ atI us k' = some (Tr.leaf d) ∧ Q d
  | _, _, _ => False) := keep rfl
@[simp ↓] theorem q_sAppK : sAppK i vk te E ρ = (isTre ρ i ∧ vk ρ (kAppK1 E ρ i te)) := keep rfl
@[simp ↓] theorem q_kAppK1 : kAppK1 E ρ i te d = (match d, ρ[i]? with
  | .int k', some (.tre (.lst _ ts)) => ∃ c b us, ixN ts.length k' = some c ∧ ts[c]? = some (.lst b us) ∧ te ρ (kAppK2 E i c b) E.xx
  | _, _ => False) := keep rfl
@[simp ↓] theorem q_kAppK2 : kAppK2 E i c b d ρ = (match ρ[i]? with
  | some (.tre (.lst a ts)) => ∃ us, ts[c]? = some (.lst b us) ∧ us.length < sizeLine ∧ E.nx (ρ.set i (.tre (.lst a (ts.set c (.lst b (us ++ [.leaf d]))))))
  | _ => False) := keep rfl
@[simp ↓] theorem q_sSetL2 : sSetL2 i to1 to2 E ρ = to1 ρ (kSetL1 E i to2) E.xx := keep rfl
@[simp ↓] theorem q_kSetL1 : kSetL1 E i to2 xs ρ = to2 ρ (kSetL2 E i xs) noX := keep rfl
@[simp ↓] theorem q_kSetL2 : kSetL2 E i xs ys ρ = (okSet ρ i ∧ ∀ a b c, E.nx (ρ.set i (.tre (.lst a [.lst b (xs.map .leaf), .lst c (ys.map .leaf)])))) := keep rfl
@[simp ↓] theorem q_kEndH : kEndH n E ρ = (okSet ρ n ∧ E.nx (ρ.set n .un)) := keep rfl
@[simp ↓] theorem q_isHole : isHole ρ n = (match ρ[n]? with
  | some (.tre (.hole _)) => True
  | _ => False) := keep rfl
end
end VS
/-! VS1: x in l, l.index(x), the items of any depth. -/
namespace VS
open PySem PySem.Spec PyProof.Rows L2
def bInD (neg : Bool) : D → D → (D → Prop) → Prop
  | x, .lst ys, Q => x.eqOk ∧ (D.lst ys).eqOk ∧ Q (.bl (if neg then !(ys.any fun y => PyData.eqv y.py x.py) else ys.any fun y => PyData.eqv y.py x.py))
  | _, _, _ => False
section
variable {K : PySem.W.Frag}
theorem any_py {ys : List D} {x : D} : (ys.map D.py).any (fun z => PyData.eqv z x.py) = ys.any fun y => PyData.eqv y.py x.py := by
  rw [List.any_map]
  rfl
theorem units65 {k : Nat} {A : Around} (r : Room k A) : A.units + 65 < cLine := by have := r.un; omega
theorem b2_inD : B2 K (rInD K) (bInD false) := fun J H d e v u Q Q' s rv ru h hq => by
  cases e with
  | lst ys =>
    obtain ⟨⟨h1, h2⟩, ⟨h3, h4⟩, q⟩ := h
    refine ⟨d.py, ys.map D.py, dp_of (rv.mono s) h1, ?_, h2, ?_, ?_⟩
    · have := dp_of (ru.mono s) h3
      rw [D.py, pyL_map] at this
      exact this
    · rw [D.py, pyL_map] at h4
      exact h4
    · rw [any_py]
      exact hq J H _ _ (Grow.refl s) (rp_b _) (by simpa using q)
  | _ => exact h.elim
end
section
variable {X : Cx} {W : WX} {o e : Expr} {ta tb : AE} {apos pos : Pos}
def kLix2 (Q : KD) (d : D) : KD := fun e ρ2 => match d with
  | .lst ys => (D.lst ys).eqOk ∧ e.eqOk ∧ ∃ (j : Nat) (y : D), ys[j]? = some y ∧ PyData.eqv y.py e.py = true ∧ (∀ (m : Nat) (z : D), m < j → ys[m]? = some z → PyData.eqv z.py e.py = false) ∧ Q (.int (j : Nat)) ρ2
  | _ => False
def kLix1 (Q : KD) (Z : KX) (tb : AE) : KD := fun d ρ1 => (∃ ys, d = .lst ys) ∧ tb ρ1 (kLix2 Q d) Z
def aLix (ta tb : AE) : AE := fun ρ Q Z => ta ρ (kLix1 Q Z tb) Z
theorem e_lix (hu : X.A.units + 65 < cLine) (ho : EX X W o ta) (he : EX X W e tb) (hs : starEach [e] X.env = (false, eval e X.env) :: starEach [] X.env := by rfl)
    (hp : ∀ U T, PE X o U → PE X e T → PE X (.Call (.Attribute o "index" apos) [e] [] pos) (tBM X.K "list" (rIndexD X.K) U (tCons T tNil)) := by exact fun _ _ h1 h2 => pe_bm PySem.F.plainAttrs_list PySem.F.slot_list_index PySem.F.type_list_index (mt_indexD (by assumption)) h1 (pa_cons h2 pa_nil)) :
    EX X W (.Call (.Attribute o "index" apos) [e] [] pos) (aLix ta tb) := by
  obtain ⟨T, p, r⟩ := ho.ex
  obtain ⟨U, p', r'⟩ := he.ex
  refine ⟨_, hp _ _ p p', fun P G F ρ σ H Q Z Q' R h hz hq => ?_⟩
  refine r P G F ρ σ H _ Z _ R h hz fun G1 ρ1 H1 v d R1 s1 rv ⟨⟨ys, ed⟩, h1⟩ => ?_
  subst ed
  obtain ⟨a, vs, rfl, g2, g3⟩ := rp_lst.mp rv
  refine ⟨.inl ⟨rfl, _, R1.sg.seq g2⟩, r' P G1 F ρ1 σ H1 _ Z _ R1 h1 (hz.mono s1) fun G2 ρ2 H2 u e R2 s2 ru h2 => ?_⟩
  obtain ⟨⟨k1, k2⟩, ⟨k3, k4⟩, j, y, e1, e2, e3, q⟩ := h2
  refine ⟨a, u, e.py, ys.map D.py, j, y.py, rfl, rfl, ?_, dp_of (ru.mono R2.sg) k3, ?_, k4, ?_, e2, ?_, hq G2 ρ2 H2 _ _ R2 (s1.trans s2) (rp_i _) q⟩
  · have := dp_of ((rv.mono s2).mono R2.sg) k1
    rw [D.py, pyL_map] at this
    exact this
  · rw [D.py, pyL_map] at k2
    exact k2
  · rw [List.getElem?_map, e1]; rfl
  · intro m z' hm hz'
    rw [List.getElem?_map] at hz'
    obtain ⟨z, hz, rfl⟩ := Option.map_eq_some_iff.mp hz'
    exact e3 m z hm hz
end
section
variable {ρ ρ1 : List Sv} {Q : KD} {Z : KX} {ta tb : AE} {ys : List D} {x e : D} {neg : Bool} {R : D → Prop}
@[simp ↓] theorem q_aLix : aLix ta tb ρ Q Z = ta ρ (kLix1 Q Z tb) Z := keep rfl
@[simp ↓] theorem q_kLix1 : kLix1 Q Z tb (.lst ys) ρ1 = tb ρ1 (kLix2 Q (.lst ys)) Z := propext ⟨fun h => h.2, fun h => ⟨⟨ys, rfl⟩, h⟩⟩
@[simp ↓] theorem q_kLix2 : kLix2 Q (.lst ys) e ρ1 = ((D.lst ys).eqOk ∧ e.eqOk ∧ ∃ (j : Nat) (y : D), ys[j]? = some y ∧ PyData.eqv y.py e.py = true ∧ (∀ (m : Nat) (z : D), m < j → ys[m]? = some z → PyData.eqv z.py e.py = false) ∧ Q (.int (j : Nat)) ρ1) := keep rfl
@[simp ↓] theorem q_bInD : bInD neg x (.lst ys) R = (x.eqOk ∧ (D.lst ys).eqOk ∧ R (.bl (if neg then !(ys.any fun y => PyData.eqv y.py x.py) else ys.any fun y => PyData.eqv y.py x.py))) := keep rfl
end
end VS
/-! VS2: list(zip(a, b)). -/
namespace VS
open PySem PySem.Spec PyProof.Rows L2
structure ZlSt (h : Heap) (z TI TO i1 i2 l1 l2 S : Addr) (xs ys : Array Value) (i : Nat) : Prop where
  ti : IsPair h TI (.ref i1) (.ref i2)
  a1 : h.IsListIter i1 l1 i
  a2 : h.IsListIter i2 l2 i
  b1 : h.IsList l1 xs
  b2 : h.IsList l2 ys
  zz : (IsZip h z TI TO .none ∧ ∃ a b, IsPair h TO a b) ∨ ∃ T f oT, IsZipHeld h z TI TO T f ∧ h.get? T = some oT ∧ T ≠ z ∧ T ≠ i1 ∧ T ≠ i2 ∧ T ≠ S
structure ZlOff (S z TI TO i1 i2 l1 l2 : Addr) : Prop where
  nz : z < S
  nTI : TI < S
  nTO : TO < S
  n1 : i1 < S
  n2 : i2 < S
  m1 : l1 < S
  m2 : l2 < S
section
variable {prog : Program} {w : World} {A : Around} {E : Value → Shared → Prop} {s : Shared} {S z TI TO i1 i2 l1 l2 : Addr} {xs ys : Array Value} {i : Nat} {h h' : Heap}
theorem ZlSt.keep (st : ZlSt h z TI TO i1 i2 l1 l2 S xs ys i) (O : ZlOff S z TI TO i1 i2 l1 l2) (hk : ∀ b o, b ≠ S → h.get? b = some o → h'.get? b = some o) : ZlSt h' z TI TO i1 i2 l1 l2 S xs ys i := by
  obtain ⟨ti, a1, a2, b1, b2, zz⟩ := st
  refine ⟨hk _ _ (Nat.ne_of_lt O.nTI) ti, a1.at fun o e => hk _ o (Nat.ne_of_lt O.n1) e, a2.at fun o e => hk _ o (Nat.ne_of_lt O.n2) e, b1.at fun o e => hk _ o (Nat.ne_of_lt O.m1) e, b2.at fun o e => hk _ o (Nat.ne_of_lt O.m2) e, ?_⟩
  rcases zz with ⟨hz, a, b, hTO⟩ | ⟨T, f, oT, hz, hT, r1, r2, r3, r4⟩
  · exact .inl ⟨hk _ _ (Nat.ne_of_lt O.nz) hz, a, b, hk _ _ (Nat.ne_of_lt O.nTO) hTO⟩
  · exact .inr ⟨T, f, oT, hk _ _ (Nat.ne_of_lt O.nz) hz, hk _ _ r4 hT, r1, r2, r3, r4⟩
end
/-! ### list(zip(a, b)), an expression -/
section
variable {X : Cx} {W : WX}
/-- list(zip(a, b)), two lists -/
def kListZ (QL : List D → List Sv → Prop) : List D → List Sv → Prop := fun ds ρ1 => match ds with
  | [.lst xs, .lst ys] => min xs.length ys.length ≤ sizeLine ∧ QL (zipD xs ys) ρ1
  | _ => False
def oListZ (t : AA) : AO := fun ρ Q Z => t ρ (kListZ Q) Z
end
section
variable {ρ ρ1 : List Sv} {Z : KX} {QL : List D → List Sv → Prop} {aa : AA} {xs ys : List D}
@[simp ↓] theorem q_oListZ : oListZ aa ρ QL Z = aa ρ (kListZ QL) Z := keep rfl
@[simp ↓] theorem q_kListZ : kListZ QL [.lst xs, .lst ys] ρ1 = (min xs.length ys.length ≤ sizeLine ∧ QL (zipD xs ys) ρ1) := keep rfl
end
end VS
/-! VS3: try .. except X: without a name. -/
namespace VS
open PySem PySem.Spec PyProof.Rows L2
def kTryX0 (D : AEnds) (cl : List (Str × Bool)) (ts : AS) : KX := fun x ρ' => ∃ b, cl.lookup x.c = some b ∧ if b = true then ts { D with xx := noX } ρ' else D.xx x ρ'
def sTry0 (cl : List (Str × Bool)) (tb ts : AS) : AS := fun D ρ => tb { D with xx := kTryX0 D cl ts } ρ
section
variable {X : Cx} {W : WX} {x : Str} {body suite : List Stmt} {b₀ : Stmt} {np pos pos' : Pos} {tb ts : AS} {cl : List (Str × Bool)}
theorem s_try0 (h : HndC X.K X.mg x cl) (tk : L2N.Takes X W) (hg : Gl X x)
    (hb : ∀ (W' : WX) (pn : List (Addr × Obj)) (xe : Value → Shared → Prop), L2N.Takes (X.tr pn xe) W' → PassesOwn (model X.prog X.w) X.A X.env xe → SXs (X.tr pn xe) W' body tb)
    (hsu : ∀ (a : Addr) (pn : List (Addr × Obj)), SXs (X.suite a pn) noW (b₀ :: suite) ts)
    (hs : X.stack = X.env :: X.outer := by rfl) (hf : X.env.frame = some X.env.locals := by rfl) (hdb : (x == ("__debug__" : Str)) = false := by decide) :
    SX X W (.Try body [.ExceptHandler (some (.Name x np)) none (b₀ :: suite) pos'] [] [] pos) (sTry0 cl tb ts) := by
  obtain ⟨C, hm, hcl⟩ := h
  let famT : WX → Cx → Prop := fun W' Y => ∃ pn xe, Y = X.tr pn xe ∧ L2N.Takes (X.tr pn xe) W' ∧ PassesOwn (model X.prog X.w) X.A X.env xe
  let famS : Addr → Cx → Prop := fun a Y => ∃ pn, Y = X.suite a pn
  refine ⟨_, L2N.ps_try_many (l := [(.ref C, fun a _ _ => wpS (famS a) (b₀ :: suite))]) (tb := fun W' => wpS (famT W') body) hs hf tk (fun W' pn xe t po => pss_wp ⟨pn, xe, rfl, t, po⟩) (.cons ⟨hg, hdb, .inl hm⟩ (fun a oe cls d pn _ _ => pss_wp ⟨_, rfl⟩) .nil), fun P G F ρ σ H D D' R h hd => ?_⟩
  rintro Y ⟨pn, xe, rfl, tkY, poY⟩ pins s I
  obtain ⟨T, p, r⟩ := (hb _ pn xe tkY poY).ex
  refine p.run pins s σ H D' I (r P G F ρ σ H _ D' R h ⟨hd.nx, hd.rt, hd.bk, hd.ct, fun σ' G1 ρ1 H1 y cls d R1 s1 E ⟨b, hlk, z⟩ => ?_⟩)
  obtain ⟨⟨C', hn, ecls⟩, _⟩ := id E
  refine ⟨b, by rw [ecls]; exact hcl y.c b hlk C' hn, fun hbt a na => ?_, fun hbf => ?_⟩
  · rw [if_pos hbt] at z
    rintro Y ⟨pn', rfl⟩ pins2 s2 I2
    obtain ⟨T2, p2, r2⟩ := (hsu a pn').ex
    have R1' : Rel X.K P G1 F ρ1 σ' H1 := R1
    refine p2.run pins2 s2 _ _ _ I2 (r2 P G1 F ρ1 σ' H1 _ D' R1' z ⟨fun G3 ρ3 σ3 H3 R3 s3 q => ?_, fun G3 ρ3 σ3 H3 r v R3 s3 rr q => ?_, fun G3 ρ3 σ3 H3 R3 s3 q => ?_, fun G3 ρ3 σ3 H3 R3 s3 q => ?_, fun _ => xin_no⟩)
    · exact hd.nx G3 _ _ H3 R3 (s1.trans s3) q
    · exact hd.rt G3 _ σ3 H3 r v R3 (s1.trans s3) rr q
    · exact hd.bk G3 _ _ H3 R3 (s1.trans s3) q
    · exact hd.ct G3 _ _ H3 R3 (s1.trans s3) q
  · rw [if_neg (by rw [hbf]; exact Bool.false_ne_true)] at z
    exact (hd.xx σ') G1 ρ1 H1 y cls d R1 s1 E z
end
section
variable {ρ : List Sv} {D : AEnds} {cl : List (Str × Bool)} {tb ts : AS} {x : Exc}
@[simp ↓] theorem q_sTry0 : sTry0 cl tb ts D ρ = tb { D with xx := kTryX0 D cl ts } ρ := keep rfl
theorem q_kTryX0 {b : Bool} (h : cl.lookup x.c = some b) : kTryX0 D cl ts x ρ = (if b = true then ts { D with xx := noX } ρ else D.xx x ρ) := by
  unfold kTryX0
  rw [h]
  exact propext ⟨fun ⟨b', e, z⟩ => by cases e; exact z, fun z => ⟨b, rfl, z⟩⟩
end
/-! ### x[j][k] = e, x a list of lists -/
def kPutK3 (E : AEnds) (i c : Nat) (b : Addr) (d : D) : KD := fun k ρ2 => match k, ρ2[i]? with
  | .int k', some (.tre (.lst a ts)) => ∃ us m, ts[c]? = some (.lst b us) ∧ ixN us.length k' = some m ∧ E.nx (ρ2.set i (.tre (.lst a (ts.set c (.lst b (us.set m (.leaf d)))))))
  | _, _ => False
def kPutK2 (E : AEnds) (i : Nat) (tk : AE) (d : D) (ρ1 : List Sv) : D → Prop := fun k => match k, ρ1[i]? with
  | .int k', some (.tre (.lst _ ts)) => ∃ c b us, ixN ts.length k' = some c ∧ ts[c]? = some (.lst b us) ∧ tk ρ1 (kPutK3 E i c b d) E.xx
  | _, _ => False
def kPutK1 (E : AEnds) (i : Nat) (vk : AV) (tk : AE) : KD := fun d ρ1 => isTre ρ1 i ∧ vk ρ1 (kPutK2 E i tk d ρ1)
def sPutK (i : Nat) (te : AE) (vk : AV) (tk : AE) : AS := fun E ρ => te ρ (kPutK1 E i vk tk) E.xx
section
variable {X : Cx} {W : WX} {e ek ek2 : Expr} {te tk : AE} {vk : AV} {p1 p2 sp pos : Pos}
theorem s_putK {i : Nat} {x : Str} (he : EX X W e te) (hk : VW X ek vk) (hk2 : EX X W ek2 tk) (hi : X.N[i]? = some x := by rfl) (hv : Vis X.env.scope x := by first | exact Or.inl rfl | exact Or.inr (Or.inl rfl) | exact Or.inr (Or.inr rfl)) (hd1 : (x == ("__debug__" : Str)) = false := by decide)
    (hcd : (x == ("__classdict__" : Str)) = false := by decide) (hix : PlainIx ek := by exact (fun _ _ => rfl))
    (ha : ∀ v, assign (.Subscript (.Subscript (.Name x p1) ek p2) ek2 sp) X.env v = (do
      let ov ← holding [v] (eval (.Subscript (.Name x p1) ek p2) X.env)
      let iv ← holding [v, ov] (eval ek2 X.env)
      standAt sp
      holding [v, ov, iv] (setItem ov iv v)
      release [v, ov, iv] []) := by intro _; rfl)
    (hs : swapsWithSole [.Subscript (.Subscript (.Name x p1) ek p2) ek2 sp] e pos.line X.env = pure false := by rfl) (hw : swappedStores [.Subscript (.Subscript (.Name x p1) ek p2) ek2 sp] e X.env = pure none := by rfl)
    (h1 : (assignEach [.Subscript (.Subscript (.Name x p1) ek p2) ek2 sp] X.env).map (·.2) = [assign (.Subscript (.Subscript (.Name x p1) ek p2) ek2 sp) X.env] := by rfl) : SX X W (.Assign [.Subscript (.Subscript (.Name x p1) ek p2) ek2 sp] e pos) (sPutK i te vk tk) := by
  obtain ⟨T, p, r⟩ := he.ex
  obtain ⟨Tk, pk, rk⟩ := hk.ex
  obtain ⟨U, p', r'⟩ := hk2.ex
  refine ⟨_, ps_asg p (pg_sub (pe_ix ix_seq (pe_var hi hv hd1 hcd) pk hix) p' set_list ha) hs hw h1, fun P G F ρ σ H D D' R h hd => ?_⟩
  refine r P G F ρ σ H _ D.xx _ R h (hd.xx σ) fun G1 ρ1 H1 v d R1 s1 rv ⟨h0, h2⟩ => ?_
  obtain ⟨a0, ts0, e0⟩ := h0.ex
  obtain ⟨v0, g1, g2, -, -⟩ := R1.tr.got i _ e0
  obtain ⟨vs0, rfl, g3, g4⟩ := tr_lst.mp g2
  refine ⟨.ref a0, g1, rk P G1 F ρ1 σ H1 _ _ R1 h2 fun G2 H2 u k R2 s2 t2 ru q => ?_⟩
  unfold kPutK2 at q
  split at q
  · rename_i k' a ts e1
    obtain ⟨c, b, us, ic, ec, q⟩ := q
    obtain ⟨vs, ws, m1, m2, m3, m4, m5, -, -, -⟩ := R2.kid e1 ec
    rw [g1] at m1
    cases m1
    refine .inl ⟨a0, vs, k', .ref b, rfl, rp_int.mp ru, SqL.of m2, atI_ix (by rw [← m3]; exact ic) m4, ?_⟩
    refine r' P G2 F ρ1 σ H2 _ D.xx _ R2 q ((hd.xx σ).mono (s1.trans s2)) fun G3 ρ3 H3 u k2 R3 s3 ru2 q => ?_
    unfold kPutK3 at q
    split at q
    · rename_i k2' a2 ts2 e2
      obtain ⟨us2, m, ec2, im, q⟩ := q
      obtain ⟨vs2, ws2, n1, n2, n3, n4, n5, n6, n7, n8⟩ := R3.kid e2 ec2
      rw [g1] at n1
      cases n1
      have fp := footL_put (u := .leaf d) foot_leaf (ts := us2) (n := m)
      exact ⟨b, ws2, k2', m, rfl, rp_int.mp ru2, n5, by rw [← n6.length]; exact im, hd.nx G3 _ σ _ (R3.editKid e2 ec2 fp.1 fp.2 (TRL.putLeaf ((rv.mono s2).mono s3) (fun x hx => upd_ne fun z => n7 (by rw [← z]; exact hx)) n6)) ((s1.trans s2).trans s3) q⟩
    · exact q.elim
  · exact q.elim
end
section
variable {ρ ρ1 ρ2 : List Sv} {E : AEnds} {i c : Nat} {b : Addr} {te tk : AE} {vk : AV} {d k : D}
@[simp ↓] theorem q_sPutK : sPutK i te vk tk E ρ = te ρ (kPutK1 E i vk tk) E.xx := keep rfl
@[simp ↓] theorem q_kPutK1 : kPutK1 E i vk tk d ρ1 = (isTre ρ1 i ∧ vk ρ1 (kPutK2 E i tk d ρ1)) := keep rfl
@[simp ↓] theorem q_kPutK2 : kPutK2 E i tk d ρ1 k = (match k, ρ1[i]? with
  | .int k', some (.tre (.lst _ ts)) => ∃ c b us, ixN ts.length k' = some c ∧ ts[c]? = some (.lst b us) ∧ tk ρ1 (kPutK3 E i c b d) E.xx
  | _, _ => False) := keep rfl
@[simp ↓] theorem q_kPutK3 : kPutK3 E i c b d k ρ2 = (match k, ρ2[i]? with
  | .int k', some (.tre (.lst a ts)) => ∃ us m, ts[c]? = some (.lst b us) ∧ ixN us.length k' = some m ∧ E.nx (ρ2.set i (.tre (.lst a (ts.set c (.lst b (us.set m (.leaf d)))))))
  | _, _ => False) := keep rfl
end
end VS
/-! VS4: <= of lists of ints. -/
namespace VS
open PySem PySem.Spec PyProof.Rows L2
/-- xs <= ys -/
def lexI : List Int → List Int → Bool
  | [], _ => true
  | _ :: _, [] => false
  | x :: xs, y :: ys => if x = y then lexI xs ys else decide (x ≤ y)
open PySem.SeqAt in
theorem first_map {e r : Nat → Bool} {z : Bool} (f : Nat → Nat) : ∀ l : List Nat, firstLt e r z (l.map f) = firstLt (fun j => e (f j)) (fun j => r (f j)) z l
  | [] => rfl
  | j :: t => by
    show (if e (f j) = true then firstLt e r z (t.map f) else r (f j)) = (if e (f j) = true then firstLt (fun j => e (f j)) (fun j => r (f j)) z t else r (f j))
    rw [first_map f t]
open PySem.SeqAt in
theorem first_lex : ∀ ns ms : List Int, firstLt (fun j => decide (ns.getD j 0 = ms.getD j 0)) (fun j => decide (ns.getD j 0 ≤ ms.getD j 0)) (decide (ns.length ≤ ms.length)) (List.range (min ns.length ms.length)) = lexI ns ms
  | [], ms => by simp [firstLt, lexI]
  | n :: ns, [] => by simp [firstLt, lexI]
  | n :: ns, m :: ms => by
    have e : min (n :: ns).length (m :: ms).length = min ns.length ms.length + 1 := by simp only [List.length_cons]; omega
    rw [e, List.range_succ_eq_map]
    show (if decide (n = m) = true then firstLt _ _ _ ((List.range (min ns.length ms.length)).map Nat.succ) else decide (n ≤ m)) = _
    rw [first_map]
    unfold lexI
    have ih := first_lex ns ms
    by_cases h : n = m
    · rw [if_pos (by simpa using h), if_pos h, ← ih]
      simp
    · rw [if_neg (by simpa using h), if_neg h]
def bLeL : D → D → (D → Prop) → Prop
  | .lst xs, .lst ys, Q => ∃ ns ms, xs = ns.map .int ∧ ys = ms.map .int ∧ Q (.bl (lexI ns ms))
  | _, _, _ => False
def rLeLi (K : PySem.W.Frag) : R2 := fun x y H Q => ∃ (a b : Addr) (ns ms : List Int), x = .ref a ∧ y = .ref b ∧ SqL K H a (ns.map V.int) ∧ SqL K H b (ms.map V.int) ∧ Q (.bl (lexI ns ms)) H
theorem op_leLi {X : Cx} (hu : X.A.units + 65 < cLine) : OpR X (compareOp .LtE) (rLeLi X.K) := by
  intro pins s σ H x y v u Q I rx ry h
  obtain ⟨a, b, ns, ms, rfl, rfl, ha, hb, q⟩ := h
  cases rx
  cases ry
  obtain ⟨its, r1, p1, _⟩ := I.list ha
  obtain ⟨its2, r2, p2, _⟩ := I.list hb
  have i1 : IntsAre its ns := Vals.ints r1
  have i2 : IntsAre its2 ms := Vals.ints r2
  have e1 : its.toArray.size = ns.length := by rw [List.size_toArray]; exact i1.length
  have e2 : its2.toArray.size = ms.length := by rw [List.size_toArray]; exact i2.length
  have at1 : ∀ j (h1 : j < its.toArray.size), ∃ t, its.toArray[j] = .int (ns.getD j 0) t := fun j h1 => PyProof.Rows.IntsAre.int_at i1 _ _ (by simp at h1; simp [h1])
  have at2 : ∀ j (h1 : j < its2.toArray.size), ∃ t, its2.toArray[j] = .int (ms.getD j 0) t := fun j h1 => PyProof.Rows.IntsAre.int_at i2 _ _ (by simp at h1; simp [h1])
  have R := PySem.SeqAt.RcOp.lists_le (A := X.A) (s := s) (e := fun j => decide (ns.getD j 0 = ms.getD j 0)) (r := fun j => decide (ns.getD j 0 ≤ ms.getD j 0)) p1.isList p2.isList (by omega) (fun j h1 h2 => by
    obtain ⟨t, et⟩ := at1 j h1
    obtain ⟨t', et'⟩ := at2 j h2
    rw [et, et']
    have z : (ns.getD j 0 == ms.getD j 0) = decide (ns.getD j 0 = ms.getD j 0) := by
      by_cases q : ns.getD j 0 = ms.getD j 0
      · rw [decide_eq_true q]; exact beq_iff_eq.mpr q
      · rw [decide_eq_false q]; exact beq_eq_false_iff_ne.mpr q
    rw [← z]
    exact SeqAt.EqAt.int_int _ _ _ _) (fun j h1 h2 _ => by
    obtain ⟨t, et⟩ := at1 j h1
    obtain ⟨t', et'⟩ := at2 j h2
    rw [et, et']
    exact fun _ _ _ _ h => PyProof.Rows.le_int h)
  rw [e1, e2, first_lex] at R
  exact R X.prog X.w X.xe (EP X pins σ Q) ⟨.bl _, H, I, rfl, q⟩
theorem b2_leLi {K : PySem.W.Frag} : B2 K (rLeLi K) bLeL := fun J H d e v u Q Q' s rv ru h hq => by
  cases d <;> first | exact h.elim | skip
  cases e <;> first | exact h.elim | skip
  obtain ⟨ns, ms, rfl, rfl, q⟩ := h
  obtain ⟨a, vs, rfl, g2, g3⟩ := rp_lst.mp rv
  obtain ⟨b, us, rfl, k2, k3⟩ := rp_lst.mp ru
  rw [rpl_ints_eq g3] at g2
  rw [rpl_ints_eq k3] at k2
  exact ⟨a, b, ns, ms, rfl, rfl, s.seq g2, s.seq k2, hq J H _ _ (Grow.refl s) (rp_b _) q⟩
theorem q_bLeL {xs ys : List D} {Q : D → Prop} : bLeL (.lst xs) (.lst ys) Q = ∃ ns ms, xs = ns.map .int ∧ ys = ms.map .int ∧ Q (.bl (lexI ns ms)) := rfl
end VS
namespace VS
open PySem PySem.Spec PyProof.Rows L2
/-! ### the law's draws -/
def orC (a b : Ctr) : Ctr := fun ρ Q Z => a ρ Q Z ∨ b ρ Q Z
theorem sat_or {n m : Nat} {b : AS} {c c' : Ctr} (h : Sat n m b c) (h' : Sat n m b c') : Sat n m b (orC c c') := fun ρ Q Z hl h0 => h0.elim (h ρ Q Z hl) (h' ρ Q Z hl)
theorem eqOk_ints {g : List Int} : (D.lst (g.map .int)).eqOk := by
  have h1 : ∀ g : List Int, D.plL true (g.map .int) = true := fun g => by induction g with
    | nil => simp [D.plL]
    | cons a l ih => simp [D.plL, D.pl, ih]
  have h2 : ∀ g : List Int, PyData.canLayAll0 (D.pyL (g.map .int)) = true := fun g => by induction g with
    | nil => simp [D.pyL, PyData.canLayAll0]
    | cons a l ih => simp [D.pyL, D.py, PyData.canLayAll0, PyData.canLay0, ih]
  have h3 : ∀ g : List Int, PyData.depthAll (D.pyL (g.map .int)) = 0 := fun g => by induction g with
    | nil => simp [D.pyL, PyData.depthAll]
    | cons a l ih => simp [D.pyL, D.py, PyData.depthAll, PyData.depth, ih]
  exact ⟨by simp [D.pl, h1], by simp [SeqAt.shaped, D.py, PyData.canLay0, PyData.depth, h2, h3]⟩
theorem atI_of {α : Type} {xs : List α} {i : Int} {x : α} (h0 : 0 ≤ i) (h : xs[i.toNat]? = some x) : atI xs i = some x := by
  have hl : i.toNat < xs.length := by
    rcases Nat.lt_or_ge i.toNat xs.length with h' | h'
    · exact h'
    · rw [List.getElem?_eq_none h'] at h; cases h
  have : i < xs.length := by omega
  simp only [atI, ixN, h0, this, if_true, Option.bind_some, h]
@[simp] theorem atI_nat {α : Type} {xs : List α} {i : Nat} : atI xs (i : Int) = xs[i]? := by
  by_cases h : i < xs.length
  · rw [atI_of (x := xs[i]) (by omega) (by rw [Int.toNat_natCast]; exact List.getElem?_eq_getElem h)]; exact (List.getElem?_eq_getElem h).symm
  · have : ¬ (i : Int) < xs.length := by omega
    simp [atI, ixN, this]; omega
@[simp] theorem atI0 {α : Type} {x : α} {xs : List α} : atI (x :: xs) 0 = some x := atI_of (by omega) (by simp)
@[simp] theorem atI1 {α : Type} {x y : α} {xs : List α} : atI (x :: y :: xs) 1 = some y := atI_of (by omega) (by simp)
@[simp] theorem atI2 {α : Type} {x y z : α} {xs : List α} : atI (x :: y :: z :: xs) 2 = some z := atI_of (by omega) (by simp)
@[simp] theorem atI3 {α : Type} {x y z w : α} {xs : List α} : atI (x :: y :: z :: w :: xs) 3 = some w := atI_of (by omega) (by simp)
theorem cutD_tail {x : D} {xs : List D} : cutD (x :: xs) (some 1) none = xs := by
  simp [cutD, HT.sIx]
@[simp] theorem eqv_nil {xs : List D} : PyData.eqv (D.lst xs).py (D.lst []).py = xs.isEmpty := by
  cases xs <;> simp [D.py, D.pyL, PyData.eqv, PyData.eqvAll]
theorem cmul_lit {i j : Int} (h : -(2 ^ 64) < j ∧ j < 2 ^ 64) : CMulA i j := cmulA_r h.1 h.2
/-! ### signs and texts of the law -/
def symC (c : Nat) : Prop := 32 ≤ c ∧ c ≤ 126 ∧ c ≠ 37
instance (c : Nat) : Decidable (symC c) := by unfold symC; infer_instance
def sgn (c : Nat) : Str := ⟨#[c]⟩
theorem atI_ex {α : Type} {xs : List α} {i : Int} (h0 : 0 ≤ i) (h1 : i < xs.length) : ∃ x ∈ xs, atI xs i = some x := by
  have h : i.toNat < xs.length := by omega
  exact ⟨xs[i.toNat], List.getElem_mem h, atI_of h0 (List.getElem?_eq_getElem h)⟩
theorem atI_last {α : Type} {xs : List α} {x : α} : atI (xs ++ [x]) (-1) = some x := by
  have : ixN (xs ++ [x]).length (-1) = some xs.length := by
    simp only [ixN, List.length_append, List.length_cons, List.length_nil]
    rw [if_neg (by omega), if_pos (by omega)]
    congr 1
    omega
  unfold atI
  rw [this]
  simp
theorem cdiv_lit {j : Int} (h : 0 < j ∧ j < 2 ^ 64) : CDivW 0 j := cdivW_of h.1 (by omega)
/-- runs next to one another have other signs -/
def Adj : List (Nat × Int) → Prop
  | [] => True
  | [_] => True
  | a :: b :: r => a.1 ≠ b.1 ∧ Adj (b :: r)
theorem Adj.tail {a : Nat × Int} {r : List (Nat × Int)} (h : Adj (a :: r)) : Adj r := by
  cases r with
  | nil => trivial
  | cons b r => exact h.2
theorem adj_snoc : ∀ {ts : List (Nat × Int)} {t : Nat × Int}, Adj ts → (∀ u, ts.getLast? = some u → u.1 ≠ t.1) → Adj (ts ++ [t])
  | [], _, _, _ => trivial
  | [a], t, _, h2 => ⟨h2 a rfl, trivial⟩
  | a :: b :: r, t, h, h2 => ⟨h.1, adj_snoc (ts := b :: r) h.2 fun u e => h2 u (by rw [List.getLast?_cons_cons]; exact e)⟩
def runD (t : Nat × Int) : D := .tup [.str (sgn t.1), .int t.2]
structure GoodText (m l : Int) (ts : List (Nat × Int)) : Prop where
  len : (ts.length : Int) ≤ m
  sym : ∀ t ∈ ts, symC t.1
  pos : ∀ t ∈ ts, 1 ≤ t.2
  top : ∀ t ∈ ts, t.2 ≤ if t.1 = 34 then 3 else l
  adj : Adj ts
/-- a number that is not long -/
def smI (i : Int) : Prop := i.natAbs < 2 ^ 1900
theorem smI.le {a b : Int} (h : smI b) (h0 : 0 ≤ a) (h1 : a ≤ b) : smI a := by unfold smI at *; exact Nat.lt_of_le_of_lt (by omega) h
theorem smI_lit {a : Int} (h : a.natAbs < 2 ^ 1000) : smI a := Nat.lt_of_lt_of_le h (Nat.pow_le_pow_right (by decide) (by decide))
theorem eqOk_sgn {c : Nat} (h : symC c) : (D.str (sgn c)).eqOk := eqOk_of (by simp [D.sok, sgn]; have := h.2.1; omega) (by simp [D.dep])
theorem sok_run {nd : Bool} {t : Nat × Int} (h : symC t.1) (h2 : smI t.2) : (runD t).sok nd = true := by
  simp only [runD, D.sok, D.sokL, sgn, Bool.and_eq_true, Bool.and_true, decide_eq_true_eq]
  refine ⟨?_, Nat.lt_trans (log2_lt (by decide) h2) (by omega)⟩
  have := h.2.1
  simp
  omega
theorem dep_run {t : Nat × Int} : (runD t).dep = 1 := by simp [runD, D.dep, D.depL]
theorem wt_run {t : Nat × Int} : (runD t).wt = 1941 := by
  have e : (sgn t.1).length = 1 := rfl
  simp [runD, D.wt, D.wtL, e]
theorem sok_runs {nd : Bool} {ts : List (Nat × Int)} (h : ∀ t ∈ ts, symC t.1) (h2 : ∀ t ∈ ts, smI t.2) : D.sokL nd (ts.map runD) = true := by
  rw [sokL_iff]
  intro d hd
  obtain ⟨t, ht, rfl⟩ := List.mem_map.mp hd
  exact sok_run (h t ht) (h2 t ht)
theorem dep_runs {ts : List (Nat × Int)} : D.depL (ts.map runD) ≤ 1 := by
  rw [depL_le]
  intro d hd
  obtain ⟨t, ht, rfl⟩ := List.mem_map.mp hd
  rw [dep_run]; omega
theorem eqv_sgn {a b : Nat} : PyData.eqv (D.str (sgn a)).py (D.str (sgn b)).py = (a == b) := by
  simp only [D.py, PyData.eqv]
  by_cases h : a = b
  · subst h
    rw [beq_self_eq_true, beq_self_eq_true]
  · rw [beq_eq_false_iff_ne.mpr h, beq_eq_false_iff_ne.mpr]
    intro e
    simp [sgn] at e
    exact h e
theorem GoodText.sm {m l : Int} {ts : List (Nat × Int)} (h : GoodText m l ts) (hl : smI l) : ∀ t ∈ ts, smI t.2 := fun t ht => by
  have h1 := h.pos t ht
  have h2 := h.top t ht
  by_cases e : t.1 = 34
  · rw [if_pos e] at h2
    exact smI_lit (by omega)
  · rw [if_neg e] at h2
    exact hl.le (by omega) h2
/-! ### lists and tuples exchanged -/
theorem noObj_of {nd : Bool} {d : D} (h : d.sok nd = true) : d.noObj := by cases d <;> first | trivial | simp [D.sok] at h
theorem wt_mem {d : D} : ∀ {xs : List D}, d ∈ xs → d.wt + 2 ≤ D.wtL xs
  | x :: xs, h => by
    simp only [D.wtL]
    rcases List.mem_cons.mp h with rfl | h
    · omega
    · have := wt_mem h; omega
theorem wtL_len : ∀ {xs : List D}, 2 * xs.length ≤ D.wtL xs
  | [] => by simp
  | x :: xs => by have := wtL_len (xs := xs); simp only [D.wtL, List.length_cons]; omega
/-! ### the law's reel -/
/-! ### texts.py: integers, symbols, runs, texts -/
def isIntD (v : D) (lo : Int) (hi : D) : Bool := match v with
  | .int i => decide (lo ≤ i) && (match hi with
    | .int h => decide (i ≤ h)
    | _ => true)
  | _ => false
def c_is_integer : Ctr := fun ρ Q _ => ∃ v lo hi, ρ = [.dat v, .dat (.int lo), .dat hi] ∧ v.noObj ∧ (hi = .non ∨ ∃ h, hi = .int h) ∧ Q (.dat (.bl (isIntD v lo hi))) [.dat v, .dat (.int lo), .dat hi]
/-- is_integer, slots ['value', 'low', 'high']; lends []; gives dat -/
def b_is_integer : AS := sSeq (sIf (aOr (aNot (vTr (vIsi "int" (vVar 0)))) (vTr (vIsi "bool" (vVar 0)))) (sRet (aC (.bl false))) (sNx))
  (sRet (aAndV (aOp bLe (aVar 1) (aVar 0)) (aOrV (aOp bIsN (aVar 2) (aC .non)) (aOp bLe (aVar 0) (aVar 2)))))
theorem p_is_integer : Sat 3 3 b_is_integer c_is_integer := by
  intro ρ Q Z hl h
  obtain ⟨v, lo, hi, rfl, hv, hh, hq⟩ := h
  unfold b_is_integer
  cases v with
  | int i =>
    by_cases h1 : lo ≤ i
    · rcases hh with rfl | ⟨h, rfl⟩
      · simpa [endsA, D.noObj, isTy, isIntD, h1] using hq
      · simpa [endsA, D.noObj, isTy, isIntD, h1] using hq
    · simpa [endsA, D.noObj, isTy, isIntD, h1] using hq
  | obj C ns xs => exact hv.elim
  | _ => simpa [endsA, D.noObj, isTy, isIntD] using hq
@[simp] theorem eqv_int {i j : Int} : PyData.eqv (D.int i).py (D.int j).py = (i == j) := by simp [D.py, PyData.eqv]
@[simp] theorem eqv_str {i j : Str} : PyData.eqv (D.str i).py (D.str j).py = (i == j) := by simp [D.py, PyData.eqv]
theorem ofs32 : Str.ofString " " = sgn 32 := by decide +kernel
theorem ofs126 : Str.ofString "~" = sgn 126 := by decide +kernel
theorem sgn_lt {a b : Nat} : ((sgn a).cps < (sgn b).cps) = (a < b) := by
  rw [← Array.lt_toList]
  simp [sgn, List.cons_lt_cons_iff]
theorem sgn_le {a b : Nat} : ((sgn a).cps ≤ (sgn b).cps) = (a ≤ b) := by
  rw [← Array.le_toList]
  simp [sgn, List.cons_le_cons_iff]
  omega
def symB (s : Str) : Bool := match s.cps.toList with
  | [c] => decide (32 ≤ c) && decide (c ≤ 126) && decide (c ≠ 37)
  | _ => false
def isSymD : D → Bool
  | .str s => symB s
  | _ => false
def c_is_symbol : Ctr := fun ρ Q _ => ∃ v nd, ρ = [.dat v] ∧ v.sok nd = true ∧ v.wt ≤ 16777216 ∧ Q (.dat (.bl (isSymD v))) [.dat v]
/-- is_symbol, slots ['value']; lends []; gives dat -/
def b_is_symbol : AS := sRet (aAndV (aFlat (vIsi "str" (vVar 0))) (aAndV (aOp bEq (aCall bLen (aCons (aVar 0) (aNil))) (aC (.int 1))) (aAndV (aFlat (vChain bLe bLe (vC (.str " ")) (vVar 0) (vC (.str "~")))) (aOp bNe (aCall bOrdC (aCons (aVar 0) (aNil))) (aC (.int 37))))))
theorem p_is_symbol : Sat 1 1 b_is_symbol c_is_symbol := by
  intro ρ Q Z hl h
  obtain ⟨v, nd, rfl, hs, hw, hq⟩ := h
  unfold b_is_symbol
  cases v with
  | str x =>
    have hx : x.length ≤ 16777216 := by simp only [D.wt] at hw; omega
    by_cases h1 : x.length = 1
    · obtain ⟨c, rfl⟩ : ∃ c, x = sgn c := by
        obtain ⟨⟨l⟩⟩ := x
        match l, h1 with
        | [c], _ => exact ⟨c, rfl⟩
      have h37 : symB (sgn c) = (decide (32 ≤ c) && decide (c ≤ 126) && decide (c ≠ 37)) := rfl
      simp [endsA, D.noObj, isTy, size16, h1, ofs32, ofs126, sgn_lt, sgn_le]
      simp only [isSymD, h37] at hq
      by_cases a1 : 32 ≤ c
      · by_cases a2 : c ≤ 126
        · by_cases a3 : c = 37
          · subst a3
            simpa [sgn] using hq
          · have e : ((c : Int) == 37) = false := beq_eq_false_iff_ne.mpr (by omega)
            simp [sgn, a1, a2, a3, e] at hq ⊢
            exact .inr hq
        · simp [a1, a2, show 126 < c by omega] at hq ⊢
          exact .inr hq
      · simp [a1, show c < 32 by omega] at hq ⊢
        exact hq
    · have : symB x = false := by
        unfold symB
        split
        · rename_i c hc; exact (h1 (by simp [Str.length, ← Array.length_toList, hc])).elim
        · rfl
      simp [endsA, D.noObj, isTy, isSymD, h1, hx, this, size16] at hq ⊢
      have h2 : ((x.length : Int) == 1) = false := beq_eq_false_iff_ne.mpr (by omega)
      have h3 : ¬ (x.length : Int) = 1 := by omega
      simpa [h1, h2, h3] using hq
  | obj C ns xs => simp [D.sok] at hs
  | _ => simpa [endsA, D.noObj, isTy, isSymD] using hq
def isRunD (v : D) : Bool := match v.items with
  | some [a, b] => isSymD a && isIntD b 1 .non
  | _ => false
def c_is_run : Ctr := fun ρ Q _ => ∃ v nd, ρ = [.dat v] ∧ v.sok nd = true ∧ v.wt ≤ 16777216 ∧ Q (.dat (.bl (isRunD v))) [.dat v]
/-- is_run, slots ['value']; lends []; gives dat -/
def b_is_run : AS := sSeq (sIf (aOr (aNot (vTr (vIsi2 "list" "tuple" (vVar 0)))) (tCmpV bNe (vCall bLen (vCons (vVar 0) (vNil))) (vC (.int 2)))) (sRet (aC (.bl false))) (sNx))
  (sRet (aAndV (aDef c_is_symbol [] (rDat (aOp bIx (aVar 0) (aC (.int 0))) (rNil))) (aDef c_is_integer [.non] (rDat (aOp bIx (aVar 0) (aC (.int 1))) (rDat (aC (.int 1)) (rNil))))))
theorem p_is_run : Sat 1 1 b_is_run c_is_run := by
  intro ρ Q Z hl h
  obtain ⟨v, nd, rfl, hs, hw, hq⟩ := h
  have main : ∀ xs : List D, v.items = some xs → D.sokL nd xs = true → D.wtL xs ≤ 16777216 → (¬ xs.length = 2 ∧ isRunD v = false) ∨ ∃ a b, xs = [a, b] ∧ a.sok nd = true ∧ b.sok nd = true ∧ a.wt ≤ 16777216 ∧ b.wt ≤ 16777216 ∧ isRunD v = (isSymD a && isIntD b 1 .non) := by
    intro xs hi hs hw
    match xs, hi, hs, hw with
    | [], hi, _, _ => exact .inl ⟨by simp, by simp [isRunD, hi]⟩
    | [a], hi, _, _ => exact .inl ⟨by simp, by simp [isRunD, hi]⟩
    | [a, b], hi, hs, hw =>
      simp only [D.sokL, Bool.and_eq_true] at hs
      simp only [D.wtL] at hw
      exact .inr ⟨a, b, rfl, hs.1, hs.2.1, by omega, by omega, by simp [isRunD, hi]⟩
    | a :: b :: c :: r, hi, _, _ => exact .inl ⟨by simp, by simp [isRunD, hi]⟩
  unfold b_is_run
  cases v with
  | lst xs =>
    simp only [D.sok] at hs
    simp only [D.wt] at hw
    rcases main xs rfl hs (by omega) with ⟨h1, h2⟩ | ⟨a, b, rfl, sa, sb, wa, wb, e⟩
    · have h1' : ¬ (xs.length : Int) = 2 := by omega
      simp [endsA, D.noObj, isTy, h1', h2] at hq ⊢
      exact hq
    · simp [endsA, D.noObj, isTy]
      refine ⟨a, nd, rfl, sa, wa, ?_⟩
      simp
      cases ha : isSymD a with
      | false => simpa [e, ha] using hq
      | true =>
        simp
        refine ⟨b, 1, .non, by simp, noObj_of sb, .inl rfl, ?_⟩
        simpa [e, ha] using hq
  | tup xs =>
    simp only [D.sok] at hs
    simp only [D.wt] at hw
    rcases main xs rfl hs (by omega) with ⟨h1, h2⟩ | ⟨a, b, rfl, sa, sb, wa, wb, e⟩
    · have h1' : ¬ (xs.length : Int) = 2 := by omega
      simp [endsA, D.noObj, isTy, h1', h2] at hq ⊢
      exact hq
    · simp [endsA, D.noObj, isTy]
      refine ⟨a, nd, rfl, sa, wa, ?_⟩
      simp
      cases ha : isSymD a with
      | false => simpa [e, ha] using hq
      | true =>
        simp
        refine ⟨b, 1, .non, by simp, noObj_of sb, .inl rfl, ?_⟩
        simpa [e, ha] using hq
  | obj C ns xs => simp [D.sok] at hs
  | _ => simpa [endsA, D.noObj, isTy, isRunD, D.items] using hq
/-- the sign of a run -/
def headD (v : D) : D := match v.items with
  | some (a :: _) => a
  | _ => .non
/-- neighbours have other signs -/
def adjD : List D → Bool
  | a :: b :: r => !(PyData.eqv (headD a).py (headD b).py) && adjD (b :: r)
  | _ => true
def isTextD (v : D) : Bool := match v.items with
  | some xs => xs.all isRunD && adjD xs
  | _ => false
def c_is_text : Ctr := fun ρ Q _ => ∃ v nd, ρ = [.dat v] ∧ v.sok nd = true ∧ v.wt ≤ 16777216 ∧ Q (.dat (.bl (isTextD v))) [.dat v]
/-- is_text, slots ['value', 'run', 'place']; lends []; gives dat -/
def b_is_text : AS := sSeq (sIf (aOr (aNot (vTr (vIsi2 "list" "tuple" (vVar 0)))) (aNot (aTr (aCall bAll (aCons (aFrz (oLc (iAny (aVar 0)) (agName 1) (aYes) (aDef c_is_run [] (rDat (aVar 1) (rNil))) [1])) (aNil)))))) (sRet (aC (.bl false))) (sNx))
  (sRet (aCall bAll (aCons (aFrz (oLc (iRange1 (aCons (aOp bSub (aCall bLen (aCons (aVar 0) (aNil))) (aC (.int 1))) (aNil))) (agName 2) (aYes) (aOp bNe (aOp bIx (aOp bIx (aVar 0) (aVar 2)) (aC (.int 0))) (aOp bIx (aOp bIx (aVar 0) (aOp bAddB (aVar 2) (aC (.int 1)))) (aC (.int 0)))) [2])) (aNil))))
theorem sokL_mem {nd : Bool} {xs : List D} {d : D} (h : D.sokL nd xs = true) (hd : d ∈ xs) : d.sok nd = true := sokL_iff.mp h d hd
theorem run_items {v : D} (h : isRunD v = true) : ∃ s n, v.items = some [.str s, .int n] ∧ symB s = true := by
  unfold isRunD at h
  split at h
  · rename_i a b e
    rw [Bool.and_eq_true] at h
    cases a <;> simp [isSymD] at h
    cases b <;> simp [isIntD] at h
    exact ⟨_, _, e, h.1⟩
  · cases h
theorem bIx_items {v : D} {xs : List D} {i : Int} {d : D} {Q : D → Prop} (hi : v.items = some xs) (hd : atI xs i = some d) (h : Q d) : bIx v (.int i) Q := by
  cases v with
  | lst ys => cases hi; exact ⟨d, hd, h⟩
  | tup ys => cases hi; exact ⟨d, hd, h⟩
  | _ => cases hi
theorem adj_range {xs : List D} : adjD xs = ((List.range (xs.length - 1)).map fun i => !(PyData.eqv (headD (xs.getD i .non)).py (headD (xs.getD (i + 1) .non)).py)).all id := by
  induction xs with
  | nil => rfl
  | cons a r ih =>
    cases r with
    | nil => rfl
    | cons b r =>
      simp only [adjD, ih, List.length_cons, Nat.add_sub_cancel]
      rw [List.range_succ_eq_map]
      simp [Function.comp_def]
theorem p_is_text : Sat 1 3 b_is_text c_is_text := by
  intro ρ Q Z hl h
  obtain ⟨v, nd, rfl, hs, hw, hq⟩ := h
  have first : ∀ (xs : List D) (Qc : List D → List Sv → Prop), v.items = some xs → D.sokL nd xs = true → D.wtL xs ≤ 16777216 → Qc ((xs.map isRunD).map .bl) [.dat v, .un, .un] →
      aComp (agName 1) aYes (aDef c_is_run [] (rDat (aVar 1) rNil)) [1] Qc xs [] [.dat v, .un, .un] := by
    intro xs Qc hi hs hw hQ
    have hlen := wtL_len (xs := xs)
    refine comp_map (fun d => .bl (isRunD d)) (by rw [size16]; omega) ?_ (by simpa [Function.comp_def] using hQ)
    intro d hd X hX
    have := wt_mem hd
    simp
    exact ⟨d, nd, rfl, sokL_mem hs hd, by omega, by simpa using hX⟩
  have second : ∀ (xs : List D) (Qc : List D → List Sv → Prop), v.items = some xs → D.sokL nd xs = true → xs.all isRunD = true → D.wtL xs ≤ 16777216 → Qc (((List.range (xs.length - 1)).map fun i => !(PyData.eqv (headD (xs.getD i .non)).py (headD (xs.getD (i + 1) .non)).py)).map .bl) [.dat v, .un, .un] →
      aComp (agName 2) aYes (aOp bNe (aOp bIx (aOp bIx (aVar 0) (aVar 2)) (aC (.int 0))) (aOp bIx (aOp bIx (aVar 0) (aOp bAddB (aVar 2) (aC (.int 1)))) (aC (.int 0)))) [2] Qc (rangeD 0 (xs.length - 1)) [] [.dat v, .un, .un] := by
    intro xs Qc hi hs hr hw hQ
    have hlen := wtL_len (xs := xs)
    rw [List.all_eq_true] at hr
    refine comp_map (fun d => match d with | .int i => .bl (!(PyData.eqv (headD (xs.getD i.toNat .non)).py (headD (xs.getD (i.toNat + 1) .non)).py)) | _ => .non) (by rw [rangeD_len, size16]; omega) ?_ (by simpa [rangeD, Function.comp_def] using hQ)
    intro d hd X hX
    obtain ⟨i, hi', rfl⟩ := List.mem_map.mp hd
    rw [List.mem_range] at hi'
    have g1 : xs[i]? = some xs[i] := List.getElem?_eq_getElem (by omega)
    have g2 : xs[i + 1]? = some xs[i + 1] := List.getElem?_eq_getElem (by omega)
    obtain ⟨s1, n1, e1, q1⟩ := run_items (hr xs[i] (List.getElem_mem _))
    obtain ⟨s2, n2, e2, q2⟩ := run_items (hr xs[i + 1] (List.getElem_mem _))
    have ok : ∀ s : Str, symB s = true → (D.str s).eqOk := by
      intro s hs
      obtain ⟨⟨l⟩⟩ := s
      match l, hs with
      | [c], hs =>
        simp [symB] at hs
        exact eqOk_sgn (c := c) ⟨hs.1.1, hs.1.2, hs.2⟩
    simp [g1, g2, headD, e1, e2] at hX
    simp
    refine bIx_items hi (i := (i : Int)) (d := xs[i]) (by rw [atI_nat]; exact g1) ?_
    refine bIx_items e1 (i := 0) atI0 ?_
    refine bIx_items hi (i := (i : Int) + 1) (d := xs[i + 1]) (atI_of (by omega) (by rw [show ((i : Int) + 1).toNat = i + 1 by omega]; exact g2)) ?_
    refine bIx_items e2 (i := 0) atI0 ?_
    exact ⟨.inr ⟨rfl, rfl⟩, by simpa using hX⟩
  have fin : ∀ xs : List D, v.items = some xs → isTextD v = (xs.all isRunD && adjD xs) := fun xs h => by simp [isTextD, h]
  unfold b_is_text
  cases v with
  | lst xs =>
    simp only [D.sok] at hs
    simp only [D.wt] at hw
    have hlen := wtL_len (xs := xs)
    simp [endsA, D.noObj, isTy]
    refine first xs _ rfl hs (by omega) ?_
    refine ⟨_, blsOf_map _, ?_⟩
    cases hr : (xs.map isRunD).all id with
    | false =>
      have : xs.all isRunD = false := by simpa using hr
      rw [fin xs rfl, this] at hq
      simpa using hq
    | true =>
      have hr' : xs.all isRunD = true := by simpa using hr
      simp
      refine ⟨by omega, by omega, ?_⟩
      refine second xs _ rfl hs hr' (by omega) ?_
      refine ⟨_, blsOf_map _, ?_⟩
      rw [fin xs rfl, hr', adj_range] at hq
      simpa using hq
  | tup xs =>
    simp only [D.sok] at hs
    simp only [D.wt] at hw
    have hlen := wtL_len (xs := xs)
    simp [endsA, D.noObj, isTy]
    refine first xs _ rfl hs (by omega) ?_
    refine ⟨_, blsOf_map _, ?_⟩
    cases hr : (xs.map isRunD).all id with
    | false =>
      have : xs.all isRunD = false := by simpa using hr
      rw [fin xs rfl, this] at hq
      simpa using hq
    | true =>
      have hr' : xs.all isRunD = true := by simpa using hr
      simp
      refine ⟨by omega, by omega, ?_⟩
      refine second xs _ rfl hs hr' (by omega) ?_
      refine ⟨_, blsOf_map _, ?_⟩
      rw [fin xs rfl, hr', adj_range] at hq
      simpa using hq
  | obj C ns xs => simp [D.sok] at hs
  | _ => simpa [endsA, D.noObj, isTy, isTextD, D.items] using hq
theorem norm_sok {nd : Bool} {d e : D} (h : d.norm = e.norm) (hs : e.sok nd = true) : d.sok nd = true := by rw [← sok_norm, h, sok_norm]; exact hs
theorem norm_wt {d e : D} (h : d.norm = e.norm) : d.wt = e.wt := by rw [← wt_norm, h, wt_norm]
theorem norm_dep {d e : D} (h : d.norm = e.norm) : d.dep = e.dep := by rw [← dep_norm, h, dep_norm]
theorem text_wt {ts : List (Nat × Int)} : (D.lst (ts.map runD)).wt ≤ 1943 * ts.length + 3 := by
  have := wtL_le (xs := ts.map runD) (k := 1941) fun d hd => by
    obtain ⟨t, _, rfl⟩ := List.mem_map.mp hd
    exact Nat.le_of_eq wt_run
  rw [List.length_map] at this
  simp only [D.wt]
  omega
theorem text_dep {ts : List (Nat × Int)} : (D.lst (ts.map runD)).dep ≤ 2 := by
  have := dep_runs (ts := ts)
  simp only [D.dep]
  omega
/-! ### texts.py: runs put together, strings -/
abbrev Tx := List (Nat × Int)
/-- a text -/
structure TextOk (ts : Tx) : Prop where
  sym : ∀ t ∈ ts, symC t.1
  pos : ∀ t ∈ ts, 1 ≤ t.2
  adj : Adj ts
  sm : ∀ t ∈ ts, smI t.2
theorem GoodText.ok {m l : Int} {ts : Tx} (h : GoodText m l ts) (hl : smI l) : TextOk ts := ⟨h.sym, h.pos, h.adj, h.sm hl⟩
theorem TextOk.nil : TextOk [] := ⟨by simp, by simp, trivial, by simp⟩
/-- v is the text ts, in lists or tuples -/
structure IsTx (v : D) (ts : Tx) : Prop where
  norm : v.norm = (D.lst (ts.map runD)).norm
  ok : TextOk ts
theorem TextOk.sok {nd : Bool} {ts : Tx} (h : TextOk ts) : (D.lst (ts.map runD)).sok nd = true := by simp only [D.sok]; exact sok_runs h.sym h.sm
theorem IsTx.sok {nd : Bool} {v : D} {ts : Tx} (h : IsTx v ts) : v.sok nd = true := norm_sok h.norm h.ok.sok
theorem IsTx.wt {v : D} {ts : Tx} (h : IsTx v ts) : v.wt ≤ 1943 * ts.length + 3 := by rw [norm_wt h.norm]; exact text_wt
theorem IsTx.dep {v : D} {ts : Tx} (h : IsTx v ts) : v.dep ≤ 2 := by rw [norm_dep h.norm]; exact text_dep
/-! add_run -/
def addRun (ts : Tx) (c : Nat) (n : Int) : Tx := if n < 1 then ts else match ts.getLast? with
  | some u => if u.1 = c then ts.dropLast ++ [(c, u.2 + n)] else ts ++ [(c, n)]
  | none => [(c, n)]
theorem sgn_inj {a b : Nat} : (sgn a = sgn b) = (a = b) := by
  simp [sgn]
theorem beq_sgn {a b : Nat} : (sgn a == sgn b) = (a == b) := by
  by_cases h : a = b
  · subst h; rw [beq_self_eq_true, beq_self_eq_true]
  · rw [beq_eq_false_iff_ne.mpr h, beq_eq_false_iff_ne.mpr (by rw [ne_eq, sgn_inj]; exact h)]
theorem ixN_last {n : Nat} : ixN (n + 1) (-1) = some n := by
  unfold ixN
  rw [if_neg (by omega), if_pos (by omega)]
  congr 1
  omega
theorem set_last {α : Type} {us : List α} {u v : α} : (us ++ [u]).set us.length v = us ++ [v] := by
  rw [List.set_append_right _ _ (Nat.le_refl _)]
  simp
theorem addRun_sym {ts : Tx} {c : Nat} {n : Int} (h : ∀ t ∈ ts, symC t.1) (hc : symC c) : ∀ t ∈ addRun ts c n, symC t.1 := by
  unfold addRun
  split
  · exact h
  · split
    · split
      · intro t ht
        rcases List.mem_append.mp ht with ht | ht
        · exact h t (List.dropLast_subset _ ht)
        · rw [List.mem_singleton.mp ht]; exact hc
      · intro t ht
        rcases List.mem_append.mp ht with ht | ht
        · exact h t ht
        · rw [List.mem_singleton.mp ht]; exact hc
    · intro t ht
      rw [List.mem_singleton.mp ht]; exact hc
theorem addRun_len {ts : Tx} {c : Nat} {n : Int} : (addRun ts c n).length ≤ ts.length + 1 := by
  unfold addRun
  split
  · omega
  · split
    · split
      · simp
      · simp
    · simp
/-- the string of a text -/
def expand (ts : Tx) : List Nat := ts.flatMap fun t => List.replicate t.2.toNat t.1
def size (ts : Tx) : Int := (ts.map (·.2)).sum
theorem adj_change : ∀ {us : Tx} {u v : Nat × Int}, Adj (us ++ [u]) → u.1 = v.1 → Adj (us ++ [v])
  | [], _, _, _, _ => trivial
  | [a], u, v, h, e => ⟨by rw [← e]; exact h.1, trivial⟩
  | a :: b :: r, u, v, h, e => ⟨h.1, adj_change (us := b :: r) h.2 e⟩
theorem addRun_cases (ts : Tx) (c : Nat) (n : Int) : (n < 1 ∧ addRun ts c n = ts) ∨ (1 ≤ n ∧ ((∃ us m, ts = us ++ [(c, m)] ∧ addRun ts c n = us ++ [(c, m + n)]) ∨ ((∀ u, ts.getLast? = some u → u.1 ≠ c) ∧ addRun ts c n = ts ++ [(c, n)]))) := by
  by_cases hn : n < 1
  · exact .inl ⟨hn, if_pos hn⟩
  · refine .inr ⟨by omega, ?_⟩
    rcases List.eq_nil_or_concat ts with rfl | ⟨us, u, hu⟩
    · exact .inr ⟨by simp, by rw [addRun, if_neg hn]; rfl⟩
    · rw [List.concat_eq_append] at hu
      subst hu
      by_cases huc : u.1 = c
      · refine .inl ⟨us, u.2, by rw [← huc], by simp [addRun, hn, huc]⟩
      · exact .inr ⟨fun v hv => by simp at hv; rw [← hv]; exact huc, by simp [addRun, hn, huc]⟩
theorem addRun_expand {ts : Tx} {c : Nat} {n : Int} (h : ∀ t ∈ ts, 1 ≤ t.2) : expand (addRun ts c n) = expand ts ++ List.replicate n.toNat c := by
  rcases addRun_cases ts c n with ⟨h1, e⟩ | ⟨h1, ⟨us, m, rfl, e⟩ | ⟨_, e⟩⟩
  · rw [e, show n.toNat = 0 by omega]; simp
  · have hm := h (c, m) (by simp)
    rw [e]
    have : (m + n).toNat = m.toNat + n.toNat := by simp at hm; omega
    simp [expand, this, List.replicate_append_replicate]
  · rw [e]; simp [expand]
theorem addRun_adj {ts : Tx} {c : Nat} {n : Int} (h : Adj ts) : Adj (addRun ts c n) := by
  rcases addRun_cases ts c n with ⟨h1, e⟩ | ⟨h1, ⟨us, m, rfl, e⟩ | ⟨h2, e⟩⟩
  · rw [e]; exact h
  · rw [e]; exact adj_change h rfl
  · rw [e]; exact adj_snoc h h2
theorem addRun_pos {ts : Tx} {c : Nat} {n : Int} (h : ∀ t ∈ ts, 1 ≤ t.2) : ∀ t ∈ addRun ts c n, 1 ≤ t.2 := by
  rcases addRun_cases ts c n with ⟨h1, e⟩ | ⟨h1, ⟨us, m, rfl, e⟩ | ⟨h2, e⟩⟩
  · rw [e]; exact h
  · rw [e]
    intro t ht
    rcases List.mem_append.mp ht with ht | ht
    · exact h t (by simp [ht])
    · have := h (c, m) (by simp)
      rw [List.mem_singleton.mp ht]; simp at this ⊢; omega
  · rw [e]
    intro t ht
    rcases List.mem_append.mp ht with ht | ht
    · exact h t ht
    · rw [List.mem_singleton.mp ht]; exact h1
theorem size_nonneg {ts : Tx} (h : ∀ t ∈ ts, 1 ≤ t.2) : (ts.length : Int) ≤ size ts := by
  induction ts with
  | nil => simp [size]
  | cons t ts ih =>
    have h1 := h t (by simp)
    have h2 := ih fun t ht => h t (by simp [ht])
    simp only [size, List.map_cons, List.sum_cons, List.length_cons] at h2 ⊢
    omega
theorem size_expand {ts : Tx} (h : ∀ t ∈ ts, 1 ≤ t.2) : size ts = (expand ts).length := by
  induction ts with
  | nil => rfl
  | cons t ts ih =>
    have h1 := h t (by simp)
    have h2 := ih fun t ht => h t (by simp [ht])
    simp only [size, expand, List.map_cons, List.sum_cons, List.flatMap_cons, List.length_append, List.length_replicate] at h2 ⊢
    omega
theorem le_size {ts : Tx} (h : ∀ t ∈ ts, 1 ≤ t.2) {t : Nat × Int} (ht : t ∈ ts) : t.2 ≤ size ts := by
  induction ts with
  | nil => cases ht
  | cons u ts ih =>
    have h1 := h u (by simp)
    have h3 := size_nonneg (ts := ts) fun t ht => h t (by simp [ht])
    simp only [size, List.map_cons, List.sum_cons] at h3 ⊢
    rcases List.mem_cons.mp ht with rfl | ht
    · omega
    · have h2 := ih (fun t ht => h t (by simp [ht])) ht
      simp only [size] at h2
      omega
/-! packed strings -/
def packed (l : List Nat) : Tx := l.foldl (fun ts c => addRun ts c 1) []
structure PackOk (l : List Nat) (ts : Tx) : Prop where
  ex : expand ts = l
  sym : ∀ t ∈ ts, symC t.1
  pos : ∀ t ∈ ts, 1 ≤ t.2
  adj : Adj ts
theorem pack_step {l : List Nat} {ts : Tx} {c : Nat} (h : PackOk l ts) (hc : symC c) : PackOk (l ++ [c]) (addRun ts c 1) :=
  ⟨by rw [addRun_expand h.pos, h.ex]; rfl, addRun_sym h.sym hc, addRun_pos h.pos, addRun_adj h.adj⟩
theorem packed_snoc {l : List Nat} {c : Nat} : packed (l ++ [c]) = addRun (packed l) c 1 := by simp [packed]
theorem packed_ok : ∀ (k : Nat) (l : List Nat), l.length = k → (∀ c ∈ l, symC c) → PackOk l (packed l)
  | 0, l, hk, _ => by
    have : l = [] := List.length_eq_zero_iff.mp hk
    subst this
    exact ⟨rfl, by simp [packed], by simp [packed], trivial⟩
  | k + 1, l, hk, h => by
    rcases List.eq_nil_or_concat l with rfl | ⟨m, c, e⟩
    · cases hk
    · rw [List.concat_eq_append] at e
      subst e
      rw [packed_snoc]
      exact pack_step (packed_ok k m (by simpa using hk) fun c hc => h c (by simp [hc])) (h c (by simp))
theorem packed_len {l : List Nat} (h : ∀ c ∈ l, symC c) : (packed l).length ≤ l.length := by
  have p := packed_ok _ l rfl h
  have h1 := size_nonneg p.pos
  have h2 := size_expand p.pos
  rw [p.ex] at h2
  omega
theorem packed_textOk {l : List Nat} (h : ∀ c ∈ l, symC c) (hl : l.length < 2 ^ 64) : TextOk (packed l) := by
  have p := packed_ok _ l rfl h
  refine ⟨p.sym, p.pos, p.adj, fun t ht => ?_⟩
  have h1 := le_size p.pos ht
  have h2 := size_expand p.pos
  have h3 := p.pos t ht
  rw [p.ex] at h2
  exact smI_lit (Nat.lt_of_lt_of_le (m := 2 ^ 64) (by omega) (Nat.pow_le_pow_right (by decide) (by decide)))
def strL (l : List Nat) : Str := ⟨l.toArray⟩
@[simp] theorem strL_len {l : List Nat} : (strL l).length = l.length := by simp [strL, Str.length]
theorem signs_strL {l : List Nat} : signsD (strL l) = l.map fun c => .str (sgn c) := by simp [signsD, strL, sgn]
theorem isSym_sgn {c : Nat} (h : symC c) : isSymD (.str (sgn c)) = true := by
  simp [isSymD, symB, sgn]
  exact ⟨⟨h.1, h.2.1⟩, h.2.2⟩
/-! size_of, pack, unpack -/
theorem join_strL' : ∀ (ls : List (List Nat)), Str.join (Str.ofString "") (ls.map strL) = strL ls.flatten
  | [] => rfl
  | [a] => by
    show strL a = _
    simp
  | a :: b :: r => by
    have ih := join_strL' (b :: r)
    show strL a ++ Str.ofString "" ++ Str.join (Str.ofString "") ((b :: r).map strL) = _
    rw [ih]
    have e : Str.ofString "" = strL [] := by decide +kernel
    rw [e]
    have app : ∀ x y : List Nat, strL x ++ strL y = strL (x ++ y) := fun x y => by
      show (⟨_⟩ : Str) = _
      simp [strL]
    rw [app, app]
    simp
theorem join_strL (ls : List (List Nat)) : Txt.join (Str.ofString "") (ls.map strL) = strL ls.flatten := (StrLaws.glued_eq_join _ _).trans (join_strL' ls)
/-! strings of the laws -/
theorem strL_app {x y : List Nat} : strL x ++ strL y = strL (x ++ y) := by
  show (⟨_⟩ : Str) = _
  simp [strL]
/-! ### texts.py: positions, parts, texts joined -/
/-- the runs from a to b - 1; p: where the first of them begins -/
def partF (a b : Int) : Int → Tx → Tx → Tx
  | _, [], acc => acc
  | p, t :: us, acc => partF a b (p + t.2) us (if min (p + t.2) b - max p a < 1 then acc else acc ++ [(t.1, min (p + t.2) b - max p a)])
def part (ts : Tx) (a b : Int) : Tx := partF a b 0 ts []
/-! ### escaping.py: parts, groups, escaped texts -/
/-- a run of plain symbols, or a group -/
inductive Prt where
  | grp (st sz : Int) (q : Bool) (many : Int)
  | pln (st : Int) (c : Nat) (n : Int)
def q01 (q : Bool) : Int := if q then 1 else 0
def grpL (sz : Int) (q : Bool) : List Nat := List.replicate (sz - q01 q).toNat 92 ++ List.replicate (q01 q).toNat 34
/-- the string of a part, its groups u times as large -/
def Prt.str (u : Int) : Prt → List Nat
  | .grp _ sz q m => (List.replicate m.toNat (grpL (sz * u) q)).flatten
  | .pln _ c n => List.replicate n.toNat c
/-- what is known of each part -/
def Prt.ok : Prt → Prop
  | .grp _ sz _ m => 1 ≤ sz ∧ 1 ≤ m
  | .pln _ c n => symC c ∧ c ≠ 92 ∧ c ≠ 34 ∧ 1 ≤ n
/-- each sign, escaped k times -/
def escC (k : Nat) (c : Nat) : List Nat := if c = 92 then List.replicate (2 ^ k) 92 else if c = 34 then List.replicate (2 ^ k - 1) 92 ++ [34] else [c]
def escS (k : Nat) (l : List Nat) : List Nat := l.flatMap (escC k)
theorem escS_app {k : Nat} {l m : List Nat} : escS k (l ++ m) = escS k l ++ escS k m := by simp [escS]
theorem escS_rep92 {k n : Nat} : escS k (List.replicate n 92) = List.replicate (n * 2 ^ k) 92 := by
  induction n with
  | zero => simp [escS]
  | succ n ih =>
    have : escS k (List.replicate (n + 1) 92) = escC k 92 ++ escS k (List.replicate n 92) := by simp [escS, List.replicate_succ]
    rw [this, ih]
    simp [escC, List.replicate_append_replicate, Nat.succ_mul, Nat.add_comm]
theorem pow_pos2 (k : Nat) : 1 ≤ 2 ^ k := Nat.one_le_two_pow
/-- a group behind runs -/
def addGrp (acc : Tx) (sz : Int) (q : Bool) : Tx := addRun (addRun acc 92 (sz - q01 q)) 34 (q01 q)
def addGrps (acc : Tx) (sz : Int) (q : Bool) : Nat → Tx
  | 0 => acc
  | n + 1 => addGrps (addGrp acc sz q) sz q n
def addPart (u : Int) (acc : Tx) : Prt → Tx
  | .grp _ sz q m => addGrps acc (sz * u) q m.toNat
  | .pln _ c n => addRun acc c n
/-- what stays of runs that are put together -/
structure AccOk (acc : Tx) : Prop where
  sym : ∀ t ∈ acc, symC t.1
  pos : ∀ t ∈ acc, 1 ≤ t.2
  adj : Adj acc
theorem AccOk.add {acc : Tx} {c : Nat} {n : Int} (h : AccOk acc) (hc : symC c) : AccOk (addRun acc c n) := ⟨addRun_sym h.sym hc, addRun_pos h.pos, addRun_adj h.adj⟩
theorem AccOk.grp {acc : Tx} {sz : Int} {q : Bool} (h : AccOk acc) : AccOk (addGrp acc sz q) ∧ expand (addGrp acc sz q) = expand acc ++ grpL sz q ∧ (addGrp acc sz q).length ≤ acc.length + 2 := by
  have h1 : AccOk (addRun acc 92 (sz - q01 q)) := h.add (by decide)
  refine ⟨h1.add (by decide), ?_, ?_⟩
  · unfold addGrp
    rw [addRun_expand h1.pos, addRun_expand h.pos]
    simp [grpL]
  · have a := addRun_len (ts := acc) (c := 92) (n := sz - q01 q)
    have b := addRun_len (ts := addRun acc 92 (sz - q01 q)) (c := 34) (n := q01 q)
    unfold addGrp
    omega
theorem AccOk.grps {sz : Int} {q : Bool} : ∀ {m : Nat} {acc : Tx}, AccOk acc → AccOk (addGrps acc sz q m) ∧ expand (addGrps acc sz q m) = expand acc ++ (List.replicate m (grpL sz q)).flatten ∧ (addGrps acc sz q m).length ≤ acc.length + 2 * m
  | 0, acc, h => ⟨h, by simp [addGrps], by simp [addGrps]⟩
  | m + 1, acc, h => by
    obtain ⟨a1, a2, a3⟩ := h.grp (sz := sz) (q := q)
    obtain ⟨b1, b2, b3⟩ := AccOk.grps (sz := sz) (q := q) (m := m) a1
    refine ⟨b1, ?_, ?_⟩
    · show expand (addGrps (addGrp acc sz q) sz q m) = _
      rw [b2, a2, List.replicate_succ]
      simp
    · show (addGrps (addGrp acc sz q) sz q m).length ≤ _
      omega
def Prt.cap : Prt → Nat
  | .grp _ _ _ m => 2 * m.toNat
  | .pln _ _ _ => 1
theorem AccOk.part {u : Int} {p : Prt} {acc : Tx} (h : AccOk acc) (hp : p.ok) : AccOk (addPart u acc p) ∧ expand (addPart u acc p) = expand acc ++ p.str u ∧ (addPart u acc p).length ≤ acc.length + p.cap := by
  cases p with
  | grp st sz q m => exact h.grps
  | pln st c n => exact ⟨h.add hp.1, addRun_expand h.pos, addRun_len⟩
theorem AccOk.nil : AccOk [] := ⟨by simp, by simp, trivial⟩
/-- how many runs an escaped text has at most -/
def cap (ts : Tx) : Nat := (ts.map fun t => if t.1 = 34 then 2 * t.2.toNat else 1).sum
theorem escC_len {k c : Nat} : 1 ≤ (escC k c).length ∧ (escC k c).length ≤ 2 ^ k := by
  have := pow_pos2 k
  unfold escC
  split
  · simp; omega
  · split
    · simp; omega
    · simp; omega
theorem escS_len {k : Nat} : ∀ {l : List Nat}, l.length ≤ (escS k l).length ∧ (escS k l).length ≤ l.length * 2 ^ k
  | [] => by simp [escS]
  | c :: l => by
    have ih := escS_len (k := k) (l := l)
    have h := escC_len (k := k) (c := c)
    have e : escS k (c :: l) = escC k c ++ escS k l := by simp [escS]
    rw [e, List.length_append, List.length_cons, Nat.succ_mul]
    omega
theorem escS_zero {l : List Nat} : escS 0 l = l := by
  induction l with
  | nil => rfl
  | cons c l ih =>
    have e : escS 0 (c :: l) = escC 0 c ++ escS 0 l := by simp [escS]
    rw [e, ih]
    unfold escC
    split
    · simp; omega
    · split
      · simp; omega
      · rfl
theorem escS_sym {k : Nat} {l : List Nat} (h : ∀ c ∈ l, symC c) : ∀ c ∈ escS k l, symC c := by
  intro c hc
  obtain ⟨d, hd, hc⟩ := List.mem_flatMap.mp hc
  unfold escC at hc
  split at hc
  · rw [(List.mem_replicate.mp hc).2]; decide
  · split at hc
    · rcases List.mem_append.mp hc with hc | hc
      · rw [(List.mem_replicate.mp hc).2]; decide
      · rw [List.mem_singleton.mp hc]; decide
    · rw [List.mem_singleton.mp hc]; exact h d hd
theorem escS_comp {j k : Nat} {l : List Nat} : escS k (escS j l) = escS (j + k) l := by
  have one : ∀ c, escS k (escC j c) = escC (j + k) c := fun c => by
    have hp := pow_pos2 j
    have hq := pow_pos2 k
    have hm : 2 ^ (j + k) = 2 ^ j * 2 ^ k := Nat.pow_add 2 j k
    unfold escC
    split
    · rw [escS_rep92, hm]
    · split
      · rw [escS_app, escS_rep92, hm]
        have : escS k [34] = List.replicate (2 ^ k - 1) 92 ++ [34] := by simp [escS, escC]
        rw [this, ← List.append_assoc, List.replicate_append_replicate]
        congr 2
        rw [Nat.sub_mul]
        have : 2 ^ k ≤ 2 ^ j * 2 ^ k := Nat.le_mul_of_pos_left _ (by omega)
        omega
      · rename_i h1 h2
        simp [escS, escC, h1, h2]
  simp only [escS, List.flatMap_assoc]
  congr 1
  funext c
  exact one c
/-- one escape, sign by sign -/
theorem escS_succ {k : Nat} {l : List Nat} : escS 1 (escS k l) = escS (k + 1) l := escS_comp
/-! ### escaping.py: the defs -/
theorem o92 : Str.ofString "\\" = sgn 92 := by decide +kernel
theorem o34 : Str.ofString "\"" = sgn 34 := by decide +kernel
theorem ok92 : (D.str (sgn 92)).eqOk := eqOk_sgn (by decide)
theorem ok34' : (D.str (sgn 34)).eqOk := eqOk_sgn (by decide)
@[simp] theorem eqv_non_str {x : Str} : PyData.eqv D.non.py (D.str x).py = false := by simp [D.py, PyData.eqv]
def c_power_of_two : Ctr := fun ρ Q _ => ∃ k : Nat, ρ = [.dat (.int k)] ∧ k ≤ 1000 ∧ Q (.dat (.int (2 ^ k))) [.dat (.int k)]
/-- power_of_two, slots ['exponent', 'found', 'turn']; lends []; gives dat -/
def b_power_of_two : AS := sSeq (sAsg (aC (.int 1)) (agName 1))
  (sSeq (sFor (iRange1 (aCons (aVar 0) (aNil))) (agName 2) (sAug 1 bMulS (aC (.int 2))))
  (sRet (aVar 1)))
theorem p_power_of_two : Sat 1 3 b_power_of_two c_power_of_two := by
  intro ρ Q Z hl h
  obtain ⟨k, rfl, h1, hq⟩ := h
  unfold b_power_of_two
  simp [endsA]
  refine ⟨by omega, ?_⟩
  refine loop_ofE (fun ds ρ => ∃ (i : Nat) (v : Sv), ρ = [.dat (.int k), .dat (.int (2 ^ i)), v] ∧ noV v ∧ i + ds.length = k) ?_ ?_ _ _ ⟨0, .un, rfl, trivial, by simp [rangeD]⟩
  · rintro ρ ⟨i, v, rfl, -, e⟩
    simp at e
    subst e
    simpa using hq
  · rintro d ds ρ E ⟨i, v, rfl, hv, e⟩ hX
    simp at e
    have c : CMul (2 ^ i) 2 := .inr (by omega)
    simp [okV_of hv, c]
    exact hX _ ⟨i + 1, .dat d, by rw [Int.pow_succ], trivial, by omega⟩
/-! parts as objects -/
def Prt.isG : Prt → Bool
  | .grp .. => true
  | .pln .. => false
def partD : Prt → D
  | .grp st sz q m => .obj "Part" ["start", "symbol", "size", "quoted", "many"] [.int st, .non, .int sz, .bl q, .int m]
  | .pln st c n => .obj "Part" ["start", "symbol", "size", "quoted", "many"] [.int st, .str (sgn c), .int n, .bl false, .int 1]
section
variable {Q : KD} {QV : D → Prop} {ρ : List Sv} {st sz m n : Int} {q : Bool} {c : Nat} {a1 a2 a3 a4 a5 : D}
theorem partX : isX ["start", "symbol", "size", "quoted", "many"] = false := by decide +kernel
theorem plook : ((["start", "symbol", "size", "quoted", "many"] : List Str).zip [a1, a2, a3, a4, a5]).lookup ("start" : Str) = some a1 ∧ ((["start", "symbol", "size", "quoted", "many"] : List Str).zip [a1, a2, a3, a4, a5]).lookup ("symbol" : Str) = some a2 ∧
    ((["start", "symbol", "size", "quoted", "many"] : List Str).zip [a1, a2, a3, a4, a5]).lookup ("size" : Str) = some a3 ∧ ((["start", "symbol", "size", "quoted", "many"] : List Str).zip [a1, a2, a3, a4, a5]).lookup ("quoted" : Str) = some a4 ∧
    ((["start", "symbol", "size", "quoted", "many"] : List Str).zip [a1, a2, a3, a4, a5]).lookup ("many" : Str) = some a5 := by
  have e : ∀ x : Str, (x == x) = true := fun x => beq_self_eq_true x
  have n1 : (("symbol" : Str) == "start") = false := by decide +kernel
  have n2 : (("size" : Str) == "start") = false := by decide +kernel
  have n3 : (("size" : Str) == "symbol") = false := by decide +kernel
  have n4 : (("quoted" : Str) == "start") = false := by decide +kernel
  have n5 : (("quoted" : Str) == "symbol") = false := by decide +kernel
  have n6 : (("quoted" : Str) == "size") = false := by decide +kernel
  have n7 : (("many" : Str) == "start") = false := by decide +kernel
  have n8 : (("many" : Str) == "symbol") = false := by decide +kernel
  have n9 : (("many" : Str) == "size") = false := by decide +kernel
  have n10 : (("many" : Str) == "quoted") = false := by decide +kernel
  simp only [List.zip_cons_cons, List.lookup_cons, e, n1, n2, n3, n4, n5, n6, n7, n8, n9, n10, and_self]
theorem kfld_of {c f : Str} {ns : List Str} {xs : List D} {x : D} (hx : isX ns = false) (h : (ns.zip xs).lookup f = some x) : kFld Q c f (.obj c ns xs) ρ = Q x ρ := by
  rw [q_kFld]
  exact propext ⟨fun ⟨_, _, y, h1, h2⟩ => by rw [h] at h1; cases h1; exact h2, fun h2 => ⟨rfl, hx, x, h, h2⟩⟩
theorem kvfld_of {c f : Str} {ns : List Str} {xs : List D} {x : D} (hx : isX ns = false) (h : (ns.zip xs).lookup f = some x) : kvFld QV c f (.obj c ns xs) = QV x := by
  rw [q_kvFld]
  exact propext ⟨fun ⟨_, _, y, h1, h2⟩ => by rw [h] at h1; cases h1; exact h2, fun h2 => ⟨rfl, hx, x, h, h2⟩⟩
@[simp] theorem fg_start : kFld Q "Part" "start" (partD (.grp st sz q m)) ρ = Q (.int st) ρ := kfld_of partX plook.1
@[simp] theorem fg_symbol : kFld Q "Part" "symbol" (partD (.grp st sz q m)) ρ = Q .non ρ := kfld_of partX plook.2.1
@[simp] theorem fg_size : kFld Q "Part" "size" (partD (.grp st sz q m)) ρ = Q (.int sz) ρ := kfld_of partX plook.2.2.1
@[simp] theorem fg_quoted : kFld Q "Part" "quoted" (partD (.grp st sz q m)) ρ = Q (.bl q) ρ := kfld_of partX plook.2.2.2.1
@[simp] theorem fg_many : kFld Q "Part" "many" (partD (.grp st sz q m)) ρ = Q (.int m) ρ := kfld_of partX plook.2.2.2.2
@[simp] theorem fp_start : kFld Q "Part" "start" (partD (.pln st c n)) ρ = Q (.int st) ρ := kfld_of partX plook.1
@[simp] theorem fp_symbol : kFld Q "Part" "symbol" (partD (.pln st c n)) ρ = Q (.str (sgn c)) ρ := kfld_of partX plook.2.1
@[simp] theorem fp_size : kFld Q "Part" "size" (partD (.pln st c n)) ρ = Q (.int n) ρ := kfld_of partX plook.2.2.1
@[simp] theorem fp_quoted : kFld Q "Part" "quoted" (partD (.pln st c n)) ρ = Q (.bl false) ρ := kfld_of partX plook.2.2.2.1
@[simp] theorem fp_many : kFld Q "Part" "many" (partD (.pln st c n)) ρ = Q (.int 1) ρ := kfld_of partX plook.2.2.2.2
@[simp] theorem vg_start : kvFld QV "Part" "start" (partD (.grp st sz q m)) = QV (.int st) := kvfld_of partX plook.1
@[simp] theorem vg_size : kvFld QV "Part" "size" (partD (.grp st sz q m)) = QV (.int sz) := kvfld_of partX plook.2.2.1
@[simp] theorem vg_quoted : kvFld QV "Part" "quoted" (partD (.grp st sz q m)) = QV (.bl q) := kvfld_of partX plook.2.2.2.1
@[simp] theorem vg_many : kvFld QV "Part" "many" (partD (.grp st sz q m)) = QV (.int m) := kvfld_of partX plook.2.2.2.2
@[simp] theorem vp_start : kvFld QV "Part" "start" (partD (.pln st c n)) = QV (.int st) := kvfld_of partX plook.1
@[simp] theorem vp_size : kvFld QV "Part" "size" (partD (.pln st c n)) = QV (.int n) := kvfld_of partX plook.2.2.1
theorem meth_isG {Z : KX} {ctr : Ctr} {p : Prt} : kMeth0 Q Z "Part" "is_group" ctr (partD p) ρ = ctr [.dat (partD p)] (kMethR Q ρ) (kMethX Z ρ) := by
  have h : ("is_group" : Str) ∉ (["start", "symbol", "size", "quoted", "many"] : List Str) := by decide +kernel
  cases p <;> simp only [partD, q_kMeth0, h, partX, not_false_eq_true, true_and]
end
def c_Part_is_group : Ctr := fun ρ Q _ => ∃ p, ρ = [.dat (partD p)] ∧ Q (.dat (.bl p.isG)) [.dat (partD p)]
@[simp] theorem isg_of {Q : KD} {Z : KX} {ρ : List Sv} {p : Prt} : kMeth0 Q Z "Part" "is_group" c_Part_is_group (partD p) ρ = Q (.bl p.isG) ρ := by
  rw [meth_isG]
  have inj : ∀ {p q : Prt}, partD p = partD q → p.isG = q.isG := fun {p q} e => by
    cases p <;> cases q <;> first | rfl | (simp [partD] at e)
  refine propext ⟨fun ⟨q, e, h⟩ => ?_, fun h => ⟨p, rfl, h⟩⟩
  have e' : partD p = partD q := by simpa using e
  rw [inj e']
  exact h
/-! ### strings of the laws that escape -/
theorem joinLists {ls : List (List Nat)} {Q : KD} {ρ : List Sv} (hlen : ls.flatten.length ≤ 16777216) (hq : Q (.str (strL ls.flatten)) ρ) : kJoin2 Q (.str "") (.lst (ls.map fun l => .str (strL l))) ρ := by
  have e : ls.map (fun l => D.str (strL l)) = (ls.map strL).map .str := by simp [Function.comp_def]
  rw [e, q_kJoin2l]
  refine ⟨_, strsOf_map _, ?_, ?_⟩
  · have e0 : (Str.ofString "").length = 0 := by decide +kernel
    simp [Function.comp_def, e0, List.length_flatten] at hlen ⊢
    exact hlen
  · rw [join_strL]
    exact hq
def c_l_escaped : Ctr := fun ρ Q _ => ∃ (l : List Nat) (k : Nat), ρ = [.dat (.str (strL l)), .dat (.int k)] ∧ (∀ c ∈ l, symC c) ∧ l.length * 2 ^ k ≤ 1000000 ∧ k ≤ 1000 ∧ Q (.dat (.str (strL (escS k l)))) [.dat (.str (strL (escS k l))), .dat (.int k)]
/-- l_escaped, slots ['l_string_here', 'l_times', 'l_step', 'l_sign']; lends []; gives dat -/
def b_l_escaped : AS := sSeq (sFor (iRange1 (aCons (aVar 1) (aNil))) (agName 2) (sAsg (aJoin (aC (.str "")) (aFrz (oLc (iAny (aVar 0)) (agName 3) (aYes) (aIfE (tCmpV (bIn false) (vVar 3) (vC (.str "\\\""))) (aOp bAddB (aC (.str "\\")) (aVar 3)) (aVar 3)) [3]))) (agName 0)))
  (sRet (aVar 0))
theorem inEsc {c : Nat} (h : symC c) : (Builtin.Str.occurrences (Str.ofString "\\\"") (sgn c) 0 (Str.ofString "\\\"").length 1).isEmpty = !(c == 92 || c == 34) := by
  have all : ∀ c : Fin 127, (Builtin.Str.occurrences (Str.ofString "\\\"") (sgn c.1) 0 (Str.ofString "\\\"").length 1).isEmpty = !(c.1 == 92 || c.1 == 34) := by decide +kernel
  exact all ⟨c, by have := h.2.1; omega⟩
theorem escC_one {c : Nat} : escC 1 c = if c = 92 ∨ c = 34 then [92, c] else [c] := by
  unfold escC
  by_cases h1 : c = 92
  · subst h1; rfl
  · by_cases h2 : c = 34
    · subst h2; rfl
    · simp [h1, h2]
def escD : D → D
  | .str x => .str (strL (escC 1 (x.cps.getD 0 0)))
  | d => d
theorem escD_sgn {c : Nat} : escD (.str (sgn c)) = .str (strL (escC 1 c)) := rfl
theorem p_l_escaped : Sat 2 4 b_l_escaped c_l_escaped := by
  intro ρ Q Z hl h
  obtain ⟨l, k, rfl, hs, hlen, hk, hq⟩ := h
  unfold b_l_escaped
  simp [endsA]
  refine ⟨by omega, ?_⟩
  refine loop_ofE (fun ds ρ => ∃ (i : Nat) (v2 v3 : Sv), ρ = [.dat (.str (strL (escS i l))), .dat (.int k), v2, v3] ∧ noV v2 ∧ noV v3 ∧ i + ds.length = k) ?_ ?_ _ _ ⟨0, .un, .un, by rw [escS_zero], trivial, trivial, by simp [rangeD]⟩
  · rintro ρ ⟨i, v2, v3, rfl, -, -, e⟩
    simp at e
    subst e
    simpa using hq
  · rintro d ds ρ E ⟨i, v2, v3, rfl, n2, n3, e⟩ hX
    simp at e
    have hpw : 2 ^ i ≤ 2 ^ k := Nat.pow_le_pow_right (by decide) (by omega)
    have hpw1 : 2 ^ (i + 1) ≤ 2 ^ k := Nat.pow_le_pow_right (by decide) (by omega)
    have b0 : l.length * 2 ^ i ≤ 1000000 := Nat.le_trans (Nat.mul_le_mul_left _ hpw) hlen
    have b1 : l.length * 2 ^ (i + 1) ≤ 1000000 := Nat.le_trans (Nat.mul_le_mul_left _ hpw1) hlen
    have l0 := (escS_len (k := i) (l := l)).2
    have l1 := (escS_len (k := i + 1) (l := l)).2
    have hs' := escS_sym (k := i) hs
    simp [okV_of n2, n3, signs_strL]
    refine comp_map escD (by simp; omega) ?_ ?_
    · intro d hd X hX
      obtain ⟨c, hc, rfl⟩ := List.mem_map.mp hd
      have sc := hs' c hc
      rw [escD_sgn, escC_one] at hX
      simp [inEsc sc]
      by_cases h : c = 92 ∨ c = 34
      · rw [if_pos h] at hX
        have h' : (c == 92 || c == 34) = true := by simpa using h
        have e2 : Str.ofString "\\" ++ sgn c = strL [92, c] := by rw [o92]; exact strL_app (x := [92]) (y := [c])
        have l2 : (Str.ofString "\\").length + (sgn c).length ≤ 16777216 := by rw [o92]; show 1 + 1 ≤ 16777216; decide
        simp [h, e2, l2]
        exact hX
      · rw [if_neg h] at hX
        simp [h]
        exact hX
    · have e1 : ((escS i l).map fun c => D.str (sgn c)).map escD = ((escS i l).map (escC 1)).map fun l => D.str (strL l) := by
        simp [Function.comp_def, escD_sgn]
      rw [e1]
      have e2 : ((escS i l).map (escC 1)).flatten = escS (i + 1) l := by rw [← escS_succ]; rfl
      refine joinLists (by rw [e2]; omega) ?_
      rw [e2]
      simp
      exact hX _ ⟨i + 1, _, _, rfl, trivial, n3, by omega⟩
/-! ### groups of a text, and sign by sign -/
structure Gr where
  st : Int
  sz : Int
  q : Bool
  many : Int
def Prt.gr : Prt → Option Gr
  | .grp st sz q m => some ⟨st, sz, q, m⟩
  | .pln _ _ _ => none
def grps (ps : List Prt) : List Gr := ps.filterMap Prt.gr
/-- the numbers of a group are not large -/
def Gr.le (g : Gr) (b : Int) : Prop := 0 ≤ g.st ∧ g.st ≤ b ∧ 0 ≤ g.sz ∧ g.sz ≤ b ∧ 0 ≤ g.many ∧ g.many ≤ b
/-! ### groups.py -/
/-! ### groups of the laws -/
/-! ### group_at -/
theorem smI_x {i : Int} (h : smI i) : i.natAbs < 2 ^ 9000 := Nat.lt_of_lt_of_le h (Nat.pow_le_pow_right (by decide) (by decide))
/-! ### the kind of an error -/
/-! ### values that are no texts -/
/-! ### histories.py: blocks -/
@[simp ↓] theorem q_bInST {neg : Bool} {s : Str} {ys : List D} {Q : D → Prop} : bIn neg (.str s) (.tup ys) Q = (D.flat (.str s) = true ∧ ys.all D.flat = true ∧ Q (.bl (if neg then !(ys.any fun y => D.eqF y (.str s)) else ys.any fun y => D.eqF y (.str s)))) := keep rfl
def wid (c k : Nat) : Int := if c = 92 ∨ c = 34 then 2 ^ k else 1
theorem inSpecial {c : Nat} : ([D.str (Str.ofString "\\"), .str (Str.ofString "\"")].any fun y => D.eqF y (.str (sgn c))) = decide (c = 92 ∨ c = 34) := by
  have e : ∀ s : Str, D.eqF (.str s) (.str (sgn c)) = (s == sgn c) := fun s => rfl
  rw [o92, o34]
  simp only [List.any_cons, List.any_nil, e, beq_sgn, Bool.or_false]
  by_cases h1 : c = 92
  · subst h1; rfl
  · by_cases h2 : c = 34
    · subst h2; rfl
    · have e1 : (92 == c) = false := by simp; exact fun z => h1 z.symm
      have e2 : (34 == c) = false := by simp; exact fun z => h2 z.symm
      simp [e1, e2, h1, h2]
def c_width_of : Ctr := fun ρ Q _ => ∃ c k : Nat, ρ = [.dat (.str (sgn c)), .dat (.int k)] ∧ k ≤ 1000 ∧ Q (.dat (.int (wid c k))) [.dat (.str (sgn c)), .dat (.int k)]
/-- width_of, slots ['symbol', 'level']; lends []; gives dat -/
def b_width_of : AS := sRet (aIfE (tCmpV (bIn false) (vVar 0) (vC (.tup [.str "\\", .str "\""]))) (aDef c_power_of_two [] (rDat (aVar 1) (rNil))) (aC (.int 1)))
theorem p_width_of : Sat 2 2 b_width_of c_width_of := by
  intro ρ Q Z hl h
  obtain ⟨c, k, rfl, hk, hq⟩ := h
  unfold b_width_of
  simp only [endsA, q_sRet, q_aIfE]
  simp [D.flat, -List.any_cons, -List.any_nil, inSpecial]
  unfold wid at hq
  by_cases h : c = 92 ∨ c = 34
  · rw [if_pos h] at hq ⊢
    refine ⟨k, rfl, hk, ?_⟩
    simpa using hq
  · rw [if_neg h] at hq ⊢
    simpa using hq
/-! pieces -/
abbrev Pc := List (Nat × Int × Int)
def pieD (p : Nat × Int × Int) : D := .tup [.str (sgn p.1), .int p.2.1, .int p.2.2]
def addP (ps : Pc) (c : Nat) (z m : Int) : Pc := if 0 < m then (match ps.getLast? with
    | some p => if c ≠ 92 ∧ p.1 = c ∧ p.2.1 = z then ps.dropLast ++ [(c, z, p.2.2 + m)] else ps ++ [(c, z, m)]
    | none => ps ++ [(c, z, m)]) else ps
theorem eqOk_ssi {a : Nat} {i : Int} (h : symC a) : (D.tup [.str (sgn a), .int i]).eqOk := by
  have h1 := eqOk_sgn h
  refine ⟨?_, ?_⟩
  · have := h1.1
    simp only [D.pl, D.plL, Bool.and_true, Bool.and_eq_true] at this ⊢
  · have := h1.2
    simp only [SeqAt.shaped, D.py, D.pyL, PyData.canLay0, PyData.canLayAll0, PyData.depth, PyData.depthAll, Bool.and_eq_true, decide_eq_true_eq, Bool.and_true] at this ⊢
    exact ⟨this.1, by decide⟩
theorem eqv_ssi {a b : Nat} {i j : Int} : PyData.eqv (D.tup [.str (sgn a), .int i]).py (D.tup [.str (sgn b), .int j]).py = (a == b && i == j) := by
  simp only [D.py, D.pyL, PyData.eqv, PyData.eqvAll, Bool.and_true]
  rw [beq_sgn]
theorem eqOk_pies {ps : Pc} (h : ∀ p ∈ ps, symC p.1) : (D.lst (ps.map pieD)).eqOk := by
  have h1 : D.plL true (ps.map pieD) = true := by
    clear h
    induction ps with
    | nil => simp [D.plL]
    | cons t ts ih => simp [D.plL, D.pl, pieD, ih]
  have h2 : PyData.canLayAll0 (D.pyL (ps.map pieD)) = true := by
    induction ps with
    | nil => simp [D.pyL, PyData.canLayAll0]
    | cons t ts ih =>
      have ht := (h t (by simp)).2.1
      have e : PyData.strOk (sgn t.1) = true := by simp [PyData.strOk, sgn]; omega
      have hp : D.plL true (ts.map pieD) = true := by simp only [List.map_cons, D.plL, Bool.and_eq_true] at h1; exact h1.2
      simp [D.pyL, D.py, pieD, PyData.canLayAll0, PyData.canLay0, e]
      exact ih (fun t ht => h t (by simp [ht])) hp
  have h4 : D.depL (ps.map pieD) ≤ 1 := by
    rw [depL_le]
    intro d hd
    obtain ⟨t, ht, rfl⟩ := List.mem_map.mp hd
    simp [pieD, D.dep, D.depL]
  have h3 : (D.lst (ps.map pieD)).py.depth ≤ 2 := Nat.le_trans depth_py (by rw [D.dep]; omega)
  refine ⟨by simp only [D.pl]; exact h1, ?_⟩
  simp only [SeqAt.shaped, Bool.and_eq_true, decide_eq_true_eq]
  exact ⟨by simp only [D.py, PyData.canLay0]; exact h2, by omega⟩
def c_add_piece : Ctr := fun ρ Q _ => ∃ (ps : Pc) (c : Nat) (z m : Int), ρ = [.own true (ps.map pieD), .dat (.str (sgn c)), .dat (.int z), .dat (.int m)] ∧ (∀ p ∈ ps, symC p.1) ∧ symC c ∧ ps.length < 16777216 ∧
  Q (.dat .non) [.own true ((addP ps c z m).map pieD), .dat (.str (sgn c)), .dat (.int z), .dat (.int m)]
/-- add_piece, slots ['pieces', 'symbol', 'size', 'many']; lends ['pieces']; gives dat -/
def b_add_piece : AS := sIf (aAnd (tCmpV bGt (vVar 3) (vC (.int 0))) (aAnd (tCmpV bNe (vVar 1) (vC (.str "\\"))) (aAnd (tCmpV bNe (vVar 0) (vLst (vNil))) (tCmpE bEq (aSl (aOwnIx 0 (aUn bNeg (aC (.int 1)))) (aNoP) (aPart (aC (.int 2)))) (aTup (aCons (aVar 1) (aCons (aVar 2) (aNil)))))))) (sPutO 0 (aTup (aCons (aVar 1) (aCons (aVar 2) (aCons (aOp bAddB (aOp bIx (aOwnIx 0 (aUn bNeg (aC (.int 1)))) (aC (.int 2))) (aVar 3)) (aNil))))) (aUn bNeg (aC (.int 1)))) (sIf (tCmpV bGt (vVar 3) (vC (.int 0))) (sAppO 0 (aTup (aCons (aVar 1) (aCons (aVar 2) (aCons (aVar 3) (aNil)))))) (sNx))
theorem cut2 {a b c : D} : cutD [a, b, c] none (some 2) = [a, b] := by simp [cutD, HT.sIx]
theorem p_add_piece : Sat 4 4 b_add_piece c_add_piece := by
  intro ρ Q Z hl h
  obtain ⟨ps, c, z, m, rfl, hs, hc, hlen, hq⟩ := h
  unfold b_add_piece
  have ok := eqOk_pies hs
  by_cases hm : 0 < m
  · have push : ∀ (E : AEnds), E.nx = (fun ρ' => Q (.dat .non) (ρ'.take 4)) → addP ps c z m = ps ++ [(c, z, m)] → Q (.dat .non) [.own true (ps.map pieD ++ [.tup [.str (sgn c), .int z, .int m]]), .dat (.str (sgn c)), .dat (.int z), .dat (.int m)] := by
      intro E _ e
      rw [e] at hq
      simpa [pieD] using hq
    clear push
    rcases List.eq_nil_or_concat ps with rfl | ⟨us, u, hu⟩
    · have e : addP [] c z m = [(c, z, m)] := by rw [addP, if_pos hm]; rfl
      rw [e] at hq
      simp [endsA, hm, eqOk_sgn hc, ok92, o92, eqv_sgn, ok]
      by_cases h92 : c = 92
      · simpa [pieD, h92] using hq
      · simpa [pieD, h92, sgn_inj] using hq
    · rw [List.concat_eq_append] at hu
      have e1 : ps.map pieD = us.map pieD ++ [.tup [.str (sgn u.1), .int u.2.1, .int u.2.2]] := by simp [hu, pieD]
      have hne : ps ≠ [] := by simp [hu]
      have hgl : ps.getLast? = some u := by simp [hu]
      have hdl : ps.dropLast = us := by simp [hu]
      have hsu := hs u (by simp [hu])
      have hul : us.length + 1 < 16777216 := by simp [hu] at hlen; omega
      rw [e1] at ok
      by_cases h92 : c = 92
      · have e : addP ps c z m = ps ++ [(c, z, m)] := by simp [addP, hm, hgl, h92]
        rw [e, List.map_append, e1] at hq
        simp [endsA, hm, eqOk_sgn hc, ok92, o92, eqv_sgn, h92, e1]
        exact ⟨hul, by simpa [pieD, h92] using hq⟩
      · simp [endsA, hm, eqOk_sgn hc, ok92, o92, eqv_sgn, h92, e1, ok, atI_last]
        right
        refine ⟨by rw [sgn_inj]; exact h92, by decide, ?_⟩
        rw [cut2, eqv_ssi]
        refine ⟨.inl ⟨eqOk_ssi hsu, eqOk_ssi hc⟩, ?_⟩
        by_cases hh : u.1 = c ∧ u.2.1 = z
        · have e : addP ps c z m = us ++ [(c, z, u.2.2 + m)] := by simp [addP, hm, hgl, h92, hh, hdl]
          rw [e] at hq
          rw [if_pos (by simp [hh])]
          refine ⟨us.length, by rw [ixN_last], ?_⟩
          have := set_last (us := us.map pieD) (u := .tup [.str (sgn u.1), .int u.2.1, .int u.2.2]) (v := .tup [.str (sgn c), .int z, .int (u.2.2 + m)])
          rw [List.length_map] at this
          rw [this]
          simpa [pieD] using hq
        · have e : addP ps c z m = ps ++ [(c, z, m)] := by
            simp only [addP, hm, if_true, hgl]
            rw [if_neg (fun q => hh ⟨q.2.1, q.2.2⟩)]
          rw [e, List.map_append, e1] at hq
          rw [if_neg (by simpa using hh)]
          exact ⟨hul, by simpa [pieD] using hq⟩
  · have : addP ps c z m = ps := if_neg hm
    rw [this] at hq
    simpa [endsA, hm] using hq
theorem addP_len {ps : Pc} {c : Nat} {z m : Int} : (addP ps c z m).length ≤ ps.length + 1 := by
  unfold addP
  split
  · cases h : ps.getLast? with
    | none => simp
    | some p =>
      simp only
      split
      · simp
      · simp
  · omega
theorem addP_sym {ps : Pc} {c : Nat} {z m : Int} (h : ∀ p ∈ ps, symC p.1) (hc : symC c) : ∀ p ∈ addP ps c z m, symC p.1 := by
  intro p hp
  unfold addP at hp
  split at hp
  · cases e : ps.getLast? with
    | none =>
      rw [e] at hp
      rcases List.mem_append.mp hp with hp | hp
      · exact h p hp
      · rw [List.mem_singleton.mp hp]; exact hc
    | some q =>
      rw [e] at hp
      simp only at hp
      split at hp
      · rcases List.mem_append.mp hp with hp | hp
        · exact h p ((List.dropLast_sublist ps).mem hp)
        · rw [List.mem_singleton.mp hp]; exact hc
      · rcases List.mem_append.mp hp with hp | hp
        · exact h p hp
        · rw [List.mem_singleton.mp hp]; exact hc
  · exact h p hp
abbrev Bx := List (Nat × Nat × Int)
def blkD (b : Nat × Nat × Int) : D := pieD (b.1, (b.2.1 : Int), b.2.2)
theorem blks_pies {bs : Bx} : bs.map blkD = (bs.map fun b => (b.1, (b.2.1 : Int), b.2.2)).map pieD := by simp [blkD]
def piecesF : Bx → Int → Pc → Pc
  | [], w, acc => addP acc 92 w (if 0 < w then 1 else 0)
  | b :: bs, w, acc => if b.1 = 92 then piecesF bs (w + b.2.2 * wid b.1 b.2.1) acc else if b.1 = 34 then piecesF bs 0 (addP (addP acc 34 (w + wid b.1 b.2.1) 1) 34 (wid b.1 b.2.1) (b.2.2 - 1)) else piecesF bs 0 (addP (addP acc 92 w (if 0 < w then 1 else 0)) b.1 1 b.2.2)
def piecesB (bs : Bx) : Pc := piecesF bs 0 []
structure BlksOk (bs : Bx) : Prop where
  sym : ∀ b ∈ bs, symC b.1
  lev : ∀ b ∈ bs, b.2.1 ≤ 200
  pos : ∀ b ∈ bs, 1 ≤ b.2.2
  sm : ∀ b ∈ bs, smI b.2.2
theorem BlksOk.tail {b : Nat × Nat × Int} {bs : Bx} (h : BlksOk (b :: bs)) : BlksOk bs := ⟨fun x hx => h.sym x (by simp [hx]), fun x hx => h.lev x (by simp [hx]), fun x hx => h.pos x (by simp [hx]), fun x hx => h.sm x (by simp [hx])⟩
theorem wid_lt {c k : Nat} (h : k ≤ 200) : 1 ≤ wid c k ∧ wid c k ≤ 2 ^ 200 := by
  unfold wid
  split
  · have h1 : 2 ^ k ≤ 2 ^ 200 := Nat.pow_le_pow_right (by decide) h
    have h2 := pow_pos2 k
    have e : ((2 ^ k : Nat) : Int) = 2 ^ k := by norm_cast
    have e2 : ((2 ^ 200 : Nat) : Int) = 2 ^ 200 := by norm_cast
    omega
  · exact ⟨Int.le_refl _, by decide⟩
theorem cmul_wid {i : Int} {c k : Nat} (h : smI i) (hk : k ≤ 200) : CMulA i (wid c k) := cmulA_x (smI_x h) (by
  have := wid_lt (c := c) hk
  exact Nat.lt_of_le_of_lt (show (wid c k).natAbs ≤ 2 ^ 200 by omega) (Nat.pow_lt_pow_right (by decide) (by decide)))
def c_pieces_of : Ctr := fun ρ Q _ => ∃ bs : Bx, ρ = [.dat (.lst (bs.map blkD))] ∧ BlksOk bs ∧ bs.length ≤ 4000000 ∧ Q (.own false ((piecesB bs).map pieD)) [.dat (.lst (bs.map blkD))]
/-- pieces_of, slots ['blocks', 'pieces', 'waiting', 'symbol', 'level', 'count']; lends []; gives own -/
def b_pieces_of : AS := sSeq (sSetO (oLst (aNil)) 1)
  (sSeq (sAsg (aC (.int 0)) (agName 2))
  (sSeq (sFor (iAny (aVar 0)) (agTup (agCons (agName 3) (agCons (agName 4) (agCons (agName 5) (agNil))))) (sIf (tCmpV bEq (vVar 3) (vC (.str "\\"))) (sAug 2 bAddI (aOp bMulB (aVar 5) (aDef c_width_of [] (rDat (aVar 3) (rDat (aVar 4) (rNil)))))) (sIf (tCmpV bEq (vVar 3) (vC (.str "\""))) (sSeq (sDrop (aDef c_add_piece [] (rIo 1 (rDat (aC (.str "\"")) (rDat (aOp bAddB (aVar 2) (aDef c_width_of [] (rDat (aVar 3) (rDat (aVar 4) (rNil))))) (rDat (aC (.int 1)) (rNil)))))))
  (sSeq (sDrop (aDef c_add_piece [] (rIo 1 (rDat (aC (.str "\"")) (rDat (aDef c_width_of [] (rDat (aVar 3) (rDat (aVar 4) (rNil)))) (rDat (aOp bSub (aVar 5) (aC (.int 1))) (rNil)))))))
  (sAsg (aC (.int 0)) (agName 2)))) (sSeq (sDrop (aDef c_add_piece [] (rIo 1 (rDat (aC (.str "\\")) (rDat (aVar 2) (rDat (aCall bInt (aCons (aOp bGt (aVar 2) (aC (.int 0))) (aNil))) (rNil)))))))
  (sSeq (sDrop (aDef c_add_piece [] (rIo 1 (rDat (aVar 3) (rDat (aC (.int 1)) (rDat (aVar 5) (rNil)))))))
  (sAsg (aC (.int 0)) (agName 2)))))))
  (sSeq (sDrop (aDef c_add_piece [] (rIo 1 (rDat (aC (.str "\\")) (rDat (aVar 2) (rDat (aCall bInt (aCons (aOp bGt (aVar 2) (aC (.int 0))) (aNil))) (rNil)))))))
  (sRetV 1))))
theorem p_pieces_of : Sat 1 6 b_pieces_of c_pieces_of := by
  intro ρ Q Z hl h
  obtain ⟨bs, rfl, ok, hlen, hq⟩ := h
  unfold b_pieces_of
  simp [endsA]
  refine loop_ofE (fun ds ρ => ∃ (us : Bx) (w : Int) (acc : Pc) (v3 v4 v5 : Sv), ds = us.map blkD ∧ ρ = [.dat (.lst (bs.map blkD)), .own false (acc.map pieD), .dat (.int w), v3, v4, v5] ∧ noV v3 ∧ noV v4 ∧ noV v5 ∧ BlksOk us ∧ (∀ p ∈ acc, symC p.1) ∧ acc.length + 2 * us.length ≤ 8000000 ∧ piecesF us w acc = piecesB bs) ?_ ?_ _ _ ⟨bs, 0, [], .un, .un, .un, rfl, rfl, trivial, trivial, trivial, ok, by simp, by simp; omega, rfl⟩
  · rintro ρ ⟨us, w, acc, v3, v4, v5, hd, rfl, -, -, -, -, ha, hl2, e⟩
    have : us = [] := by cases us with
      | nil => rfl
      | cons _ _ => cases hd
    subst this
    rw [← e, piecesF] at hq
    simp only [List.length_nil] at hl2
    simp
    refine ⟨acc, 92, w, _, by rw [o92], ha, by decide, by omega, ?_⟩
    simp
    exact hq
  · rintro d ds ρ E ⟨us, w, acc, v3, v4, v5, hd, rfl, n3, n4, n5, hu, ha, hl2, e⟩ hX
    obtain ⟨b, us, rfl, rfl, rfl⟩ : ∃ b us', us = b :: us' ∧ d = blkD b ∧ ds = us'.map blkD := by
      cases us with
      | nil => cases hd
      | cons b us' => cases hd; exact ⟨b, us', rfl, rfl, rfl⟩
    obtain ⟨c, k, n⟩ := b
    have sc := hu.sym _ (List.mem_cons_self ..)
    have lc := hu.lev _ (List.mem_cons_self ..)
    have mc := hu.sm _ (List.mem_cons_self ..)
    simp only at sc lc mc
    simp only [List.length_cons] at hl2
    have cm := cmul_wid (c := c) mc lc
    rw [piecesF] at e
    simp only at e
    simp [blkD, pieD, okV_of n3, okV_of n4, okV_of n5, eqOk_sgn sc, ok92, o92, eqv_sgn]
    by_cases h92 : c = 92
    · rw [if_pos h92] at e
      simp [h92]
      refine ⟨c, k, by simp [h92], by omega, ?_⟩
      simp [cm]

      exact hX _ ⟨us, w + n * wid c k, acc, .dat (.str (sgn c)), .dat (.int k), .dat (.int n), rfl, by first | rfl | rw [h92], trivial, trivial, trivial, hu.tail, ha, by omega, e⟩
    · rw [if_neg h92] at e
      simp [h92, sgn_inj, ok34', o34, eqOk_sgn sc, eqv_sgn]
      by_cases h34 : c = 34
      · rw [if_pos h34] at e ⊢
        have l1 := addP_len (ps := acc) (c := 34) (z := w + wid c k) (m := 1)
        have l2 := addP_len (ps := addP acc 34 (w + wid c k) 1) (c := 34) (z := wid c k) (m := n - 1)
        have s1 := addP_sym (z := w + wid c k) (m := 1) ha (show symC 34 by decide)
        refine ⟨c, k, rfl, by omega, ?_⟩
        simp
        refine ⟨acc, 34, _, 1, rfl, ha, by decide, by omega, ?_⟩
        simp
        refine ⟨c, k, rfl, by omega, ?_⟩
        simp
        refine ⟨_, 34, _, n - 1, rfl, s1, by decide, by omega, ?_⟩
        simp
        exact hX _ ⟨us, 0, _, .dat (.str (sgn c)), .dat (.int k), .dat (.int n), rfl, rfl, trivial, trivial, trivial, hu.tail, addP_sym s1 (by decide), by omega, e⟩
      · rw [if_neg h34] at e ⊢
        have l1 := addP_len (ps := acc) (c := 92) (z := w) (m := if 0 < w then 1 else 0)
        have l2 := addP_len (ps := addP acc 92 w (if 0 < w then 1 else 0)) (c := c) (z := 1) (m := n)
        have s1 := addP_sym (z := w) (m := if 0 < w then 1 else 0) ha (show symC 92 by decide)
        refine ⟨acc, 92, w, _, rfl, ha, by decide, by omega, ?_⟩
        simp
        refine ⟨_, c, 1, n, rfl, s1, sc, by omega, ?_⟩
        simp
        exact hX _ ⟨us, 0, _, .dat (.str (sgn c)), .dat (.int k), .dat (.int n), rfl, rfl, trivial, trivial, trivial, hu.tail, addP_sym s1 sc, by omega, e⟩
/-! text_by -/
/-! blocks of any values -/
def isBlkD (v : D) : Bool := match v.items with
  | some [s, l, n] => isSymD s && (isIntD l 0 (.int 200) && isIntD n 1 .non)
  | _ => false
theorem isText_one {s : D} : isTextD (.lst [.tup [s, .int 1]]) = isSymD s := by
  simp [isTextD, D.items, adjD, isRunD, isIntD]
def c_is_block : Ctr := fun ρ Q _ => ∃ v nd, ρ = [.dat v] ∧ v.sok nd = true ∧ v.wt ≤ 16770000 ∧ Q (.dat (.bl (isBlkD v))) [.dat v]
/-- is_block, slots ['value']; lends []; gives dat -/
def b_is_block : AS := sSeq (sIf (aOr (aNot (vTr (vIsi2 "list" "tuple" (vVar 0)))) (aOr (tCmpV bNe (vCall bLen (vCons (vVar 0) (vNil))) (vC (.int 3))) (aNot (vTr (vDef c_is_text [] (vCons (vLst (vCons (vTup (vCons (vOp bIx (vVar 0) (vC (.int 0))) (vCons (vC (.int 1)) (vNil)))) (vNil))) (vNil))))))) (sRet (aC (.bl false))) (sNx))
  (sRet (aAndV (aDef c_is_integer [] (rDat (aOp bIx (aVar 0) (aC (.int 1))) (rDat (aC (.int 0)) (rDat (aC (.int 200)) (rNil))))) (aDef c_is_integer [.non] (rDat (aOp bIx (aVar 0) (aC (.int 2))) (rDat (aC (.int 1)) (rNil))))))
theorem p_is_block : Sat 1 1 b_is_block c_is_block := by
  intro ρ Q Z hl h
  obtain ⟨v, nd, rfl, hs, hw, hq⟩ := h
  have main : ∀ xs : List D, v.items = some xs → D.sokL nd xs = true → D.wtL xs ≤ 16770000 → (¬ xs.length = 3 ∧ isBlkD v = false) ∨ ∃ a b c, xs = [a, b, c] ∧ a.sok nd = true ∧ b.sok nd = true ∧ c.sok nd = true ∧ a.wt ≤ 16770000 ∧ isBlkD v = (isSymD a && (isIntD b 0 (.int 200) && isIntD c 1 .non)) := by
    intro xs hi hs hw
    match xs, hi, hs, hw with
    | [], hi, _, _ => exact .inl ⟨by simp, by simp [isBlkD, hi]⟩
    | [a], hi, _, _ => exact .inl ⟨by simp, by simp [isBlkD, hi]⟩
    | [a, b], hi, _, _ => exact .inl ⟨by simp, by simp [isBlkD, hi]⟩
    | [a, b, c], hi, hs, hw =>
      simp only [D.sokL, Bool.and_eq_true] at hs
      simp only [D.wtL] at hw
      exact .inr ⟨a, b, c, rfl, hs.1, hs.2.1, hs.2.2.1, by omega, by simp [isBlkD, hi]⟩
    | a :: b :: c :: d :: r, hi, _, _ => exact .inl ⟨by simp, by simp [isBlkD, hi]⟩
  have big : (2 : Nat) ^ 1 < 2 ^ 1920 := Nat.pow_lt_pow_right (by decide) (by decide)
  have one : (D.int 1).sok nd = true := by
    simp only [D.sok, decide_eq_true_eq]
    decide
  have fin : ∀ (E : AEnds) (a b c : D), a.sok nd = true → b.sok nd = true → c.sok nd = true → a.wt ≤ 16770000 → isBlkD v = (isSymD a && (isIntD b 0 (.int 200) && isIntD c 1 .non)) →
      (D.lst [.tup [a, .int 1]]).sok nd = true ∧ (D.lst [.tup [a, .int 1]]).wt ≤ 16777216 := by
    intro E a b c sa sb sc wa e
    refine ⟨?_, ?_⟩
    · simp only [D.sok, D.sokL, Bool.and_eq_true, Bool.and_true] at one ⊢
      exact ⟨sa, one⟩
    · simp only [D.wt, D.wtL]; omega
  unfold b_is_block
  cases v with
  | lst xs =>
    simp only [D.sok] at hs
    simp only [D.wt] at hw
    rcases main xs rfl hs (by omega) with ⟨h1, h2⟩ | ⟨a, b, c, rfl, sa, sb, sc, wa, e⟩
    · have h1' : ¬ (xs.length : Int) = 3 := by omega
      simp [endsA, D.noObj, isTy, h1', h2] at hq ⊢
      exact hq
    · obtain ⟨f1, f2⟩ := fin ⟨fun _ => False, fun _ _ => False, fun _ => False, fun _ => False, noX⟩ a b c sa sb sc wa e
      simp [endsA, D.noObj, isTy]
      refine ⟨_, nd, rfl, f1, f2, ?_⟩
      rw [isText_one]
      cases ha : isSymD a with
      | false => simpa [e, ha] using hq
      | true =>
        simp
        refine ⟨b, 0, .int 200, by simp, noObj_of sb, .inr ⟨200, rfl⟩, ?_⟩
        cases hb : isIntD b 0 (.int 200) with
        | false => simpa [e, ha, hb] using hq
        | true =>
          simp
          refine ⟨c, 1, .non, by simp, noObj_of sc, .inl rfl, ?_⟩
          simpa [e, ha, hb] using hq
  | tup xs =>
    simp only [D.sok] at hs
    simp only [D.wt] at hw
    rcases main xs rfl hs (by omega) with ⟨h1, h2⟩ | ⟨a, b, c, rfl, sa, sb, sc, wa, e⟩
    · have h1' : ¬ (xs.length : Int) = 3 := by omega
      simp [endsA, D.noObj, isTy, h1', h2] at hq ⊢
      exact hq
    · obtain ⟨f1, f2⟩ := fin ⟨fun _ => False, fun _ _ => False, fun _ => False, fun _ => False, noX⟩ a b c sa sb sc wa e
      simp [endsA, D.noObj, isTy]
      refine ⟨_, nd, rfl, f1, f2, ?_⟩
      rw [isText_one]
      cases ha : isSymD a with
      | false => simpa [e, ha] using hq
      | true =>
        simp
        refine ⟨b, 0, .int 200, by simp, noObj_of sb, .inr ⟨200, rfl⟩, ?_⟩
        cases hb : isIntD b 0 (.int 200) with
        | false => simpa [e, ha, hb] using hq
        | true =>
          simp
          refine ⟨c, 1, .non, by simp, noObj_of sc, .inl rfl, ?_⟩
          simpa [e, ha, hb] using hq
  | obj C ns xs => simp [D.sok] at hs
  | _ => simpa [endsA, D.noObj, isTy, isBlkD, D.items] using hq
theorem isSym_ex {v : D} (h : isSymD v = true) : ∃ c, v = .str (sgn c) ∧ symC c := by
  cases v with
  | str s =>
    obtain ⟨⟨l⟩⟩ := s
    match l, h with
    | [c], h =>
      simp [isSymD, symB] at h
      exact ⟨c, rfl, h.1.1, h.1.2, h.2⟩
  | _ => cases h
theorem isInt_ex {v : D} {lo : Int} {hi : D} (h : isIntD v lo hi = true) : ∃ i, v = .int i ∧ lo ≤ i := by
  cases v with
  | int i =>
    refine ⟨i, rfl, ?_⟩
    simp only [isIntD] at h
    split at h <;> simp at h <;> omega
  | _ => simp [isIntD] at h
theorem isInt_le {i lo hi : Int} (h : isIntD (.int i) lo (.int hi) = true) : i ≤ hi := by
  simp [isIntD] at h
  exact h.2
theorem blk_items {v : D} (h : isBlkD v = true) : ∃ (c k : Nat) (n : Int), v.items = some [.str (sgn c), .int k, .int n] ∧ symC c ∧ k ≤ 200 ∧ 1 ≤ n := by
  unfold isBlkD at h
  split at h
  · rename_i s l n e
    rw [Bool.and_eq_true, Bool.and_eq_true] at h
    obtain ⟨c, rfl, hc⟩ := isSym_ex h.1
    obtain ⟨i, rfl, hi⟩ := isInt_ex h.2.1
    obtain ⟨j, rfl, hj⟩ := isInt_ex h.2.2
    have := isInt_le h.2.1
    obtain ⟨k, rfl⟩ : ∃ k : Nat, i = k := ⟨i.toNat, by omega⟩
    exact ⟨c, k, j, e, hc, by omega, hj⟩
  · cases h
/-- two neighbours may stand so -/
def nextD (a b : D) : Bool := match a.items, b.items with
  | some [s, .int l, _], some [s', .int l', _] => !(decide (l < l') || PyData.eqv (D.tup [s, .int l]).py (D.tup [s', .int l']).py)
  | _, _ => false
def chainD : List D → Bool
  | a :: b :: r => nextD a b && chainD (b :: r)
  | _ => true
def areBlksD (v : D) : Bool := match v.items with
  | some xs => xs.all isBlkD && chainD xs
  | _ => false
theorem cutD_one {xs : List D} : cutD xs (some 1) none = xs.tail := by
  cases xs with
  | nil => simp [cutD]
  | cons x xs => exact cutD_tail
theorem vIx_items {v : D} {xs : List D} {i : Int} {d : D} {Q : D → Prop} (hi : v.items = some xs) (hd : atI xs i = some d) : bIx v (.int i) Q = Q d := by
  cases v with
  | lst ys => cases hi; simp [hd]
  | tup ys => cases hi; simp [hd]
  | _ => cases hi
def c_are_blocks : Ctr := fun ρ Q _ => ∃ v nd, ρ = [.dat v] ∧ v.sok nd = true ∧ v.wt ≤ 16770000 ∧ Q (.dat (.bl (areBlksD v))) [.dat v]
/-- are_blocks, slots ['value', 'block', 'one', 'other']; lends []; gives dat -/
def b_are_blocks : AS := sSeq (sIf (aOr (aNot (vTr (vIsi2 "list" "tuple" (vVar 0)))) (aNot (aTr (aCall bAll (aCons (aFrz (oLc (iAny (aVar 0)) (agName 1) (aYes) (aDef c_is_block [] (rDat (aVar 1) (rNil))) [1])) (aNil)))))) (sRet (aC (.bl false))) (sNx))
  (sSeq (sFor (iZipB (aCons (aVar 0) (aCons (aSlA (aVar 0) (aPart (aC (.int 1))) (aNoP)) (aNil)))) (agTup (agCons (agName 2) (agCons (agName 3) (agNil)))) (sIf (aOr (tCmpV bLt (vOp bIx (vVar 2) (vC (.int 1))) (vOp bIx (vVar 3) (vC (.int 1)))) (tCmpV bEq (vTup (vCons (vOp bIx (vVar 2) (vC (.int 0))) (vCons (vOp bIx (vVar 2) (vC (.int 1))) (vNil)))) (vTup (vCons (vOp bIx (vVar 3) (vC (.int 0))) (vCons (vOp bIx (vVar 3) (vC (.int 1))) (vNil)))))) (sRet (aC (.bl false))) (sNx)))
  (sRet (aC (.bl true))))
theorem p_are_blocks : Sat 1 4 b_are_blocks c_are_blocks := by
  intro ρ Q Z hl h
  obtain ⟨v, nd, rfl, hs, hw, hq⟩ := h
  have first : ∀ (xs : List D) (Qc : List D → List Sv → Prop), v.items = some xs → D.sokL nd xs = true → D.wtL xs ≤ 16770000 → Qc ((xs.map isBlkD).map .bl) [.dat v, .un, .un, .un] →
      aComp (agName 1) aYes (aDef c_is_block [] (rDat (aVar 1) rNil)) [1] Qc xs [] [.dat v, .un, .un, .un] := by
    intro xs Qc hi hs hw hQ
    have hlen := wtL_len (xs := xs)
    refine comp_map (fun d => .bl (isBlkD d)) (by rw [size16]; omega) ?_ (by simpa [Function.comp_def] using hQ)
    intro d hd X hX
    have := wt_mem hd
    simp
    exact ⟨d, nd, rfl, sokL_mem hs hd, by omega, by simpa using hX⟩
  have loop : ∀ (tb : AS) (xs : List D), (∀ E : AEnds, E.nx = E.nx) → v.items = some xs → xs.all isBlkD = true → (areBlksD v = (xs.all isBlkD && chainD xs)) →
      tb = sIf (aOr (tCmpV bLt (vOp bIx (vVar 2) (vC (.int 1))) (vOp bIx (vVar 3) (vC (.int 1)))) (tCmpV bEq (vTup (vCons (vOp bIx (vVar 2) (vC (.int 0))) (vCons (vOp bIx (vVar 2) (vC (.int 1))) (vNil)))) (vTup (vCons (vOp bIx (vVar 3) (vC (.int 0))) (vCons (vOp bIx (vVar 3) (vC (.int 1))) (vNil)))))) (sRet (aC (.bl false))) (sNx) →
      aLoop (agTup (agCons (agName 2) (agCons (agName 3) (agNil)))) tb { endsA 1 Q Z with nx := sRet (aC (.bl true)) (endsA 1 Q Z) } (zipD xs xs.tail) [.dat v, .un, .un, .un] := by
    rintro tb xs - hi hall eA rfl
    refine loop_of (fun ds ρ => ∃ (ys : List D) (v2 v3 : Sv), ds = zipD ys ys.tail ∧ ρ = [.dat v, .un, v2, v3] ∧ noV v2 ∧ noV v3 ∧ ys.all isBlkD = true ∧ chainD ys = chainD xs) ?_ ?_ (zipD xs xs.tail) _ ⟨xs, .un, .un, rfl, rfl, trivial, trivial, hall, rfl⟩
    · rintro ρ ⟨ys, v2, v3, hd, rfl, -, -, -, e⟩
      have : chainD ys = true := by
        cases ys with
        | nil => rfl
        | cons a r => cases r with
          | nil => rfl
          | cons b r => cases hd
      rw [eA, hall, ← e, this] at hq
      simpa [endsA] using hq
    · rintro d ds ρ X ⟨ys, v2, v3, hd, rfl, n2, n3, ha, e⟩ hX
      match ys, hd, ha, e with
      | a :: b :: r, hd, ha, e =>
        obtain ⟨rfl, rfl⟩ := List.cons.inj hd
        rw [List.all_cons, List.all_cons, Bool.and_eq_true, Bool.and_eq_true] at ha
        obtain ⟨c, k, n, e1, hc, -, -⟩ := blk_items ha.1
        obtain ⟨c', k', n', e2, hc', -, -⟩ := blk_items ha.2.1
        have x0 : ∀ Q, bIx a (.int 0) Q = Q (.str (sgn c)) := fun Q => vIx_items e1 atI0
        have x1 : ∀ Q, bIx a (.int 1) Q = Q (.int k) := fun Q => vIx_items e1 atI1
        have y0 : ∀ Q, bIx b (.int 0) Q = Q (.str (sgn c')) := fun Q => vIx_items e2 atI0
        have y1 : ∀ Q, bIx b (.int 1) Q = Q (.int k') := fun Q => vIx_items e2 atI1
        have nx : nextD a b = !(decide ((k : Int) < k') || (c == c' && (k : Int) == k')) := by
          unfold nextD
          rw [e1, e2]
          simp only [eqv_ssi]
        rw [chainD, nx] at e
        simp [okV_of n2, okV_of n3, x0, x1, y0, y1, size16, eqOk_ssi hc, eqOk_ssi hc', eqv_ssi]
        have bad : (decide ((k : Int) < k') || (c == c' && (k : Int) == k')) = true → (endsA 1 Q Z).rt (.dat (.bl false)) [.dat v, .un, .dat a, .dat b] := fun z => by
          rw [z] at e
          rw [eA, hall, ← e] at hq
          simpa [endsA] using hq
        by_cases h1 : k < k'
        · rw [if_pos h1]
          exact bad (by simp [h1])
        · rw [if_neg h1]
          by_cases h2 : c = c' ∧ (k : Int) = k'
          · rw [if_pos h2]
            exact bad (by simp [h2.1, h2.2])
          · rw [if_neg h2]
            have z : (decide ((k : Int) < k') || (c == c' && (k : Int) == k')) = false := by
              rw [Bool.eq_false_iff]
              intro z
              simp only [Bool.or_eq_true, decide_eq_true_eq, Bool.and_eq_true, beq_iff_eq] at z
              rcases z with z | z
              · omega
              · exact h2 z
            rw [z] at e
            exact hX _ ⟨b :: r, .dat a, .dat b, rfl, rfl, trivial, trivial, by rw [List.all_cons, Bool.and_eq_true]; exact ha.2, by simpa using e⟩
  have fin : ∀ xs : List D, v.items = some xs → areBlksD v = (xs.all isBlkD && chainD xs) := fun xs h => by simp [areBlksD, h]
  unfold b_are_blocks
  cases v with
  | lst xs =>
    simp only [D.sok] at hs
    simp only [D.wt] at hw
    have hlen := wtL_len (xs := xs)
    refine seq_hide fun u hu => ?_
    simp [endsA, D.noObj, isTy]
    refine first xs _ rfl hs (by omega) ?_
    refine ⟨_, blsOf_map _, ?_⟩
    cases hr : (xs.map isBlkD).all id with
    | false =>
      have : xs.all isBlkD = false := by simpa using hr
      rw [fin xs rfl, this] at hq
      simpa using hq
    | true =>
      have hr' : xs.all isBlkD = true := by simpa using hr
      subst hu
      simp
      rw [cutD_one]
      exact loop _ xs (fun _ => rfl) rfl hr' (fin xs rfl) rfl
  | tup xs =>
    simp only [D.sok] at hs
    simp only [D.wt] at hw
    have hlen := wtL_len (xs := xs)
    refine seq_hide fun u hu => ?_
    simp [endsA, D.noObj, isTy]
    refine first xs _ rfl hs (by omega) ?_
    refine ⟨_, blsOf_map _, ?_⟩
    cases hr : (xs.map isBlkD).all id with
    | false =>
      have : xs.all isBlkD = false := by simpa using hr
      rw [fin xs rfl, this] at hq
      simpa using hq
    | true =>
      have hr' : xs.all isBlkD = true := by simpa using hr
      subst hu
      simp
      rw [cutD_one]
      exact loop _ xs (fun _ => rfl) rfl hr' (fin xs rfl) rfl
  | obj C ns xs => simp [D.sok] at hs
  | _ => simpa [endsA, D.noObj, isTy, areBlksD, D.items] using hq
def nextB (a b : Nat × Nat × Int) : Prop := ¬ a.2.1 < b.2.1 ∧ ¬ (a.1 = b.1 ∧ a.2.1 = b.2.1)
def Chn : Bx → Prop
  | a :: b :: r => nextB a b ∧ Chn (b :: r)
  | _ => True
structure HistOk (bs : Bx) : Prop extends BlksOk bs where
  chn : Chn bs
structure IsHx (v : D) (bs : Bx) : Prop where
  norm : v.norm = (D.lst (bs.map blkD)).norm
  ok : HistOk bs
theorem blkD_norm {b : Nat × Nat × Int} : (blkD b).norm = .lst [.str (sgn b.1), .int (b.2.1 : Int), .int b.2.2] := by simp only [blkD, pieD, D.norm, D.normL]
theorem norm_tri {v : D} {x : Str} {i j : Int} (h : v.norm = .lst [.str x, .int i, .int j]) : v.items = some [.str x, .int i, .int j] := by
  obtain ⟨xs, h1, h2⟩ := norm_lst h
  match xs, h1, h2 with
  | [], _, h2 => simp at h2
  | [_], _, h2 => simp at h2
  | [_, _], _, h2 => simp at h2
  | a :: b :: c :: d :: r, _, h2 => simp at h2
  | [a, b, c], h1, h2 =>
    simp only [List.map_cons, List.map_nil, List.cons.injEq, and_true] at h2
    rw [h1, norm_str h2.1, norm_int h2.2.1, norm_int h2.2.2]
theorem blk_norm {x : D} {b : Nat × Nat × Int} (h : x.norm = (blkD b).norm) : x.items = some [.str (sgn b.1), .int (b.2.1 : Int), .int b.2.2] := norm_tri (by rw [h, blkD_norm])
theorem symD_sgn {c : Nat} (h : symC c) : isSymD (.str (sgn c)) = true := isSym_sgn h
theorem isBlk_norm {x : D} {b : Nat × Nat × Int} (h : x.norm = (blkD b).norm) (h1 : symC b.1) (h2 : b.2.1 ≤ 200) (h3 : 1 ≤ b.2.2) : isBlkD x = true := by
  unfold isBlkD
  rw [blk_norm h]
  simp [symD_sgn h1, isIntD]
  omega
theorem blks_norm : ∀ {bs : Bx} {xs : List D}, xs.map D.norm = bs.map (fun b => (blkD b).norm) → BlksOk bs → Chn bs → xs.all isBlkD = true ∧ chainD xs = true
  | [], xs, h, _, _ => by
    have : xs = [] := by simpa using h
    subst this
    exact ⟨rfl, rfl⟩
  | [b], xs, h, ok, _ => by
    match xs, h with
    | [], h => simp at h
    | _ :: _ :: _, h => simp at h
    | [x], h =>
      simp only [List.map_cons, List.map_nil, List.cons.injEq, and_true] at h
      have := isBlk_norm h (ok.sym b (by simp)) (ok.lev b (by simp)) (ok.pos b (by simp))
      exact ⟨by simp [this], rfl⟩
  | b :: b' :: bs, xs, h, ok, chn => by
    match xs, h with
    | [], h => simp at h
    | [_], h => simp at h
    | x :: x' :: xs, h =>
      have hx : x.norm = (blkD b).norm := (List.cons.inj h).1
      have ht := (List.cons.inj h).2
      have hx' : x'.norm = (blkD b').norm := (List.cons.inj ht).1
      obtain ⟨i1, i2⟩ := blks_norm (bs := b' :: bs) (xs := x' :: xs) ht ok.tail chn.2
      have a1 := isBlk_norm hx (ok.sym b (by simp)) (ok.lev b (by simp)) (ok.pos b (by simp))
      refine ⟨by rw [List.all_cons, a1, i1]; rfl, ?_⟩
      rw [chainD, i2, Bool.and_true]
      unfold nextD
      rw [blk_norm hx, blk_norm hx']
      simp only [eqv_ssi]
      obtain ⟨n1, n2⟩ := chn.1
      rw [Bool.not_eq_true', Bool.or_eq_false_iff]
      refine ⟨by simp; omega, ?_⟩
      rw [Bool.eq_false_iff]
      intro z
      simp only [Bool.and_eq_true, beq_iff_eq] at z
      exact n2 ⟨z.1, by omega⟩
theorem IsHx.items {v : D} {bs : Bx} (h : IsHx v bs) : ∃ xs, v.items = some xs ∧ xs.map D.norm = bs.map fun b => (blkD b).norm := by
  have e := h.norm
  have : (D.lst (bs.map blkD)).norm = .lst ((bs.map blkD).map D.norm) := by simp only [D.norm, normL_map]
  rw [this] at e
  obtain ⟨xs, h1, h2⟩ := norm_lst e
  exact ⟨xs, h1, by rw [h2]; simp⟩
theorem IsHx.are {v : D} {bs : Bx} (h : IsHx v bs) : areBlksD v = true := by
  obtain ⟨xs, h1, h2⟩ := h.items
  obtain ⟨a, b⟩ := blks_norm h2 h.ok.toBlksOk h.ok.chn
  unfold areBlksD
  rw [h1]
  simp only [a, b, Bool.and_self]
theorem sok_blk {nd : Bool} {b : Nat × Nat × Int} (h : symC b.1) (h2 : b.2.1 ≤ 200) (h3 : smI b.2.2) : (blkD b).sok nd = true := by
  simp only [blkD, pieD, D.sok, D.sokL, sgn, Bool.and_eq_true, Bool.and_true, decide_eq_true_eq]
  refine ⟨?_, ?_, Nat.lt_trans (log2_lt (by decide) h3) (by omega)⟩
  · have := h.2.1
    simp
    omega
  · exact Nat.lt_trans (log2_lt (n := 9) (by decide) (by omega)) (by decide)
theorem BlksOk.sok {nd : Bool} {bs : Bx} (h : BlksOk bs) : (D.lst (bs.map blkD)).sok nd = true := by
  rw [D.sok, sokL_iff]
  intro d hd
  obtain ⟨b, hb, rfl⟩ := List.mem_map.mp hd
  exact sok_blk (h.sym b hb) (h.lev b hb) (h.sm b hb)
theorem wt_blk {b : Nat × Nat × Int} : (blkD b).wt = 3865 := by
  have e : (sgn b.1).length = 1 := rfl
  simp [blkD, pieD, D.wt, D.wtL, e]
theorem blks_wt {bs : Bx} : (D.lst (bs.map blkD)).wt ≤ 3867 * bs.length + 3 := by
  have := wtL_le (k := 3865) (xs := bs.map blkD) (fun d hd => by
    obtain ⟨b, hb, rfl⟩ := List.mem_map.mp hd
    rw [wt_blk]; exact Nat.le_refl _)
  rw [D.wt]
  simp at this
  omega
theorem blks_dep {bs : Bx} : (D.lst (bs.map blkD)).dep ≤ 2 := by
  have : D.depL (bs.map blkD) ≤ 1 := by
    rw [depL_le]
    intro d hd
    obtain ⟨t, ht, rfl⟩ := List.mem_map.mp hd
    simp [blkD, pieD, D.dep, D.depL]
  rw [D.dep]
  omega
theorem IsHx.sok {nd : Bool} {v : D} {bs : Bx} (h : IsHx v bs) : v.sok nd = true := norm_sok h.norm h.ok.toBlksOk.sok
theorem IsHx.wt {v : D} {bs : Bx} (h : IsHx v bs) : v.wt ≤ 3867 * bs.length + 3 := by rw [norm_wt h.norm]; exact blks_wt
theorem IsHx.dep {v : D} {bs : Bx} (h : IsHx v bs) : v.dep ≤ 2 := by rw [norm_dep h.norm]; exact blks_dep
def c_checked_blocksV : Ctr := fun ρ Q _ => ∃ v bs, ρ = [.dat v] ∧ IsHx v bs ∧ bs.length ≤ 4000 ∧ Q (.own false (bs.map blkD)) [.dat v]
def c_checked_blocksX : Ctr := fun ρ _ Z => ∃ v nd, ρ = [.dat v] ∧ v.sok nd = true ∧ v.wt ≤ 16770000 ∧ areBlksD v = false ∧ Z ⟨"InvalidHistory", none⟩ [.dat v]
def c_checked_blocks : Ctr := orC c_checked_blocksV c_checked_blocksX
/-- checked_blocks, slots ['history', 'block']; lends []; gives own -/
def b_checked_blocks : AS := sSeq (sIf (aNot (vTr (vDef c_are_blocks [] (vCons (vVar 0) (vNil))))) (sRaise0 "InvalidHistory") (sNx))
  (sRetO (oLc (iAny (aVar 0)) (agName 1) (aYes) (aCall bTuple (aCons (aVar 1) (aNil))) [1]))
theorem map_blk : ∀ {xs : List D} {bs : Bx} (f : D → D), xs.map D.norm = bs.map (fun b => (blkD b).norm) → (∀ x b, x.norm = (blkD b).norm → f x = blkD b) → xs.map f = bs.map blkD
  | [], [], f, _, _ => rfl
  | [], b :: bs, f, h, _ => by cases h
  | x :: xs, [], f, h, _ => by cases h
  | x :: xs, b :: bs, f, h, hf => by
    rw [List.map_cons, List.map_cons, hf x b (List.cons.inj h).1, map_blk f (List.cons.inj h).2 hf]
theorem mem_blk : ∀ {xs : List D} {bs : Bx} {x : D}, xs.map D.norm = bs.map (fun b => (blkD b).norm) → x ∈ xs → ∃ b ∈ bs, x.norm = (blkD b).norm
  | x :: xs, b :: bs, y, h, hy => by
    rcases List.mem_cons.mp hy with rfl | hy
    · exact ⟨b, by simp, (List.cons.inj h).1⟩
    · obtain ⟨c, hc, e⟩ := mem_blk (List.cons.inj h).2 hy
      exact ⟨c, by simp [hc], e⟩
  | x :: xs, [], y, h, hy => by cases h
theorem p_checked_blocksV : Sat 1 2 b_checked_blocks c_checked_blocksV := by
  intro ρ Q Z hl h
  obtain ⟨v, bs, rfl, hv, hlen, hq⟩ := h
  have hw := hv.wt
  have hs : v.sok false = true := hv.sok
  obtain ⟨xs, h1, h2⟩ := hv.items
  have hl2 : xs.length = bs.length := by have := congrArg List.length h2; simpa using this
  have comp : ∀ Qc : List D → List Sv → Prop, Qc (bs.map blkD) [.dat v, .un] → aComp (agName 1) aYes (aCall bTuple (aCons (aVar 1) aNil)) [1] Qc xs [] [.dat v, .un] := by
    intro Qc hQ
    refine comp_map (fun x => match x.items with | some ys => .tup ys | none => x) (by rw [size16]; omega) ?_ ?_
    · intro d hd X hX
      obtain ⟨b, hb, e⟩ := mem_blk h2 hd
      have ei := blk_norm e
      simp [ei] at hX
      cases d with
      | lst ys => simp [D.items] at ei; subst ei; simp; exact hX
      | tup ys => simp [D.items] at ei; subst ei; simp; exact hX
      | _ => cases ei
    · rw [map_blk _ h2]
      · exact hQ
      · intro x b e
        simp [blk_norm e, blkD, pieD]
  unfold b_checked_blocks
  simp [endsA]
  refine ⟨v, false, rfl, hs, by omega, ?_⟩
  simp [hv.are]
  cases v with
  | lst ys => cases h1; simp; exact comp _ (by simpa using hq)
  | tup ys => cases h1; simp; exact comp _ (by simpa using hq)
  | _ => cases h1
theorem p_checked_blocksX : Sat 1 2 b_checked_blocks c_checked_blocksX := by
  intro ρ Q Z hl h
  obtain ⟨v, nd, rfl, h1, h2, h3, hz⟩ := h
  unfold b_checked_blocks
  simp [endsA]
  refine ⟨v, nd, rfl, h1, h2, ?_⟩
  simpa [h3] using hz
theorem p_checked_blocks : Sat 1 2 b_checked_blocks c_checked_blocks := sat_or p_checked_blocksV p_checked_blocksX
/-! text_of -/
/-! (fgr and fgr2, for the chain of the facts) -/
/-! ### blocks and their length -/
/-- what any list of blocks keeps -/
structure BInv (bs : Bx) : Prop where
  sym : ∀ b ∈ bs, symC b.1
  lev : ∀ b ∈ bs, b.2.1 ≤ 200
  pos : ∀ b ∈ bs, 1 ≤ b.2.2
def lenB (bs : Bx) : Int := (bs.map fun b => b.2.2 * wid b.1 b.2.1).sum
def cntB (bs : Bx) : Int := (bs.map fun b => b.2.2).sum
theorem lenB_app {xs ys : Bx} : lenB (xs ++ ys) = lenB xs + lenB ys := by simp [lenB]
theorem wid_pos {c k : Nat} : 1 ≤ wid c k := by
  unfold wid
  split
  · have := pow_pos2 k
    have e : ((2 ^ k : Nat) : Int) = 2 ^ k := by norm_cast
    omega
  · exact Int.le_refl _
theorem BInv.nil : BInv [] := ⟨by simp, by simp, by simp⟩
theorem BInv.app {xs ys : Bx} (h : BInv xs) (h' : BInv ys) : BInv (xs ++ ys) := by
  have all : ∀ {p : Nat × Nat × Int → Prop}, (∀ x ∈ xs, p x) → (∀ x ∈ ys, p x) → ∀ x ∈ xs ++ ys, p x := fun h1 h2 x hx => by
    rcases List.mem_append.mp hx with hx | hx
    · exact h1 x hx
    · exact h2 x hx
  exact ⟨all h.sym h'.sym, all h.lev h'.lev, all h.pos h'.pos⟩
theorem BInv.left {xs ys : Bx} (h : BInv (xs ++ ys)) : BInv xs := ⟨fun b hb => h.sym b (by simp [hb]), fun b hb => h.lev b (by simp [hb]), fun b hb => h.pos b (by simp [hb])⟩
theorem BInv.one {c k : Nat} {n : Int} (h1 : symC c) (h2 : k ≤ 200) (h3 : 1 ≤ n) : BInv [(c, k, n)] := ⟨by simpa using h1, by simpa using h2, by simpa using h3⟩
theorem eqOk_blksI {bs : Bx} (h : BInv bs) : (D.lst (bs.map blkD)).eqOk := by
  rw [blks_pies]
  exact eqOk_pies fun p hp => by
    obtain ⟨x, hx, rfl⟩ := List.mem_map.mp hp
    exact h.sym x hx
/-- characters added to blocks -/
def addB (bs : Bx) (c k : Nat) (n : Int) : Bx := if 0 < n then (match bs.getLast? with
    | some u => if u.1 = c ∧ u.2.1 = k then bs.dropLast ++ [(c, k, u.2.2 + n)] else bs ++ [(c, k, n)]
    | none => bs ++ [(c, k, n)]) else bs
theorem addB_zero {bs : Bx} {c k : Nat} {n : Int} (h : ¬ 0 < n) : addB bs c k n = bs := if_neg h
theorem addB_cases {bs : Bx} {c k : Nat} {n : Int} (h : 0 < n) : (addB bs c k n = bs ++ [(c, k, n)] ∧ ∀ u, bs.getLast? = some u → ¬ (u.1 = c ∧ u.2.1 = k)) ∨ ∃ us m, bs = us ++ [(c, k, m)] ∧ addB bs c k n = us ++ [(c, k, m + n)] := by
  unfold addB
  rw [if_pos h]
  rcases List.eq_nil_or_concat bs with rfl | ⟨us, u, hu⟩
  · exact .inl ⟨rfl, fun u hu => by cases hu⟩
  · rw [List.concat_eq_append] at hu
    subst hu
    simp only [List.getLast?_append, List.getLast?_singleton, Option.some_or, List.dropLast_concat]
    split
    · rename_i hh
      obtain ⟨h1, h2⟩ := hh
      obtain ⟨c', k', m⟩ := u
      simp only at h1 h2
      subst h1 h2
      exact .inr ⟨us, m, rfl, rfl⟩
    · rename_i hh
      exact .inl ⟨rfl, fun u' hu' => by cases hu'; exact hh⟩
theorem addB_inv {bs : Bx} {c k : Nat} {n : Int} (h : BInv bs) (hc : symC c) (hk : k ≤ 200) : BInv (addB bs c k n) ∧ (addB bs c k n).length ≤ bs.length + 1 ∧ (0 ≤ n → lenB (addB bs c k n) = lenB bs + n * wid c k) := by
  by_cases hn : 0 < n
  · rcases addB_cases (bs := bs) (c := c) (k := k) hn with ⟨e, -⟩ | ⟨us, m, rfl, e⟩
    · rw [e]
      exact ⟨h.app (.one hc hk (by omega)), by simp, fun _ => by rw [lenB_app]; simp [lenB]⟩
    · rw [e]
      have hm := h.pos (c, k, m) (by simp)
      simp only at hm
      exact ⟨h.left.app (.one hc hk (by omega)), by simp, fun _ => by rw [lenB_app, lenB_app]; simp [lenB, Int.add_mul]; omega⟩
  · rw [addB_zero hn]
    exact ⟨h, by omega, fun h0 => by have : n = 0 := by omega
                                     subst this; simp⟩
def c_add_block : Ctr := fun ρ Q _ => ∃ (bs : Bx) (c k : Nat) (n : Int), ρ = [.own true (bs.map blkD), .dat (.str (sgn c)), .dat (.int k), .dat (.int n)] ∧ BInv bs ∧ symC c ∧ k ≤ 200 ∧ bs.length < 16777216 ∧
  Q (.dat .non) [.own true ((addB bs c k n).map blkD), .dat (.str (sgn c)), .dat (.int k), .dat (.int n)]
/-- add_block, slots ['blocks', 'symbol', 'level', 'count']; lends ['blocks']; gives dat -/
def b_add_block : AS := sIf (aAnd (tCmpV bGt (vVar 3) (vC (.int 0))) (aAnd (tCmpV bNe (vVar 0) (vLst (vNil))) (tCmpE bEq (aSl (aOwnIx 0 (aUn bNeg (aC (.int 1)))) (aNoP) (aPart (aC (.int 2)))) (aTup (aCons (aVar 1) (aCons (aVar 2) (aNil))))))) (sPutO 0 (aTup (aCons (aVar 1) (aCons (aVar 2) (aCons (aOp bAddB (aOp bIx (aOwnIx 0 (aUn bNeg (aC (.int 1)))) (aC (.int 2))) (aVar 3)) (aNil))))) (aUn bNeg (aC (.int 1)))) (sIf (tCmpV bGt (vVar 3) (vC (.int 0))) (sAppO 0 (aTup (aCons (aVar 1) (aCons (aVar 2) (aCons (aVar 3) (aNil)))))) (sNx))
theorem p_add_block : Sat 4 4 b_add_block c_add_block := by
  intro ρ Q Z hl h
  obtain ⟨bs, c, k, n, rfl, hi, hc, hk, hlen, hq⟩ := h
  unfold b_add_block
  have ok := eqOk_blksI hi
  by_cases hn : 0 < n
  · rcases List.eq_nil_or_concat bs with rfl | ⟨us, u, hu⟩
    · have e : addB [] c k n = [(c, k, n)] := by simp [addB, hn]
      rw [e] at hq
      simp [endsA, hn]
      simpa [blkD, pieD] using hq
    · rw [List.concat_eq_append] at hu
      have e1 : bs.map blkD = us.map blkD ++ [.tup [.str (sgn u.1), .int u.2.1, .int u.2.2]] := by simp [hu, blkD, pieD]
      have hne : bs ≠ [] := by simp [hu]
      have hsu := hi.sym u (by simp [hu])
      have hul : us.length + 1 < 16777216 := by simp [hu] at hlen; omega
      rw [e1] at ok ⊢
      simp [endsA, hn, ok, atI_last]
      refine ⟨by decide, ?_⟩
      rw [cut2, eqv_ssi]
      refine ⟨.inl ⟨eqOk_ssi hsu, eqOk_ssi hc⟩, ?_⟩
      by_cases hh : u.1 = c ∧ u.2.1 = k
      · have e : addB bs c k n = us ++ [(c, k, u.2.2 + n)] := by simp [addB, hn, hu, hh]
        rw [e] at hq
        rw [if_pos (by simp [hh])]
        refine ⟨us.length, by rw [ixN_last], ?_⟩
        have := set_last (us := us.map blkD) (u := .tup [.str (sgn u.1), .int u.2.1, .int u.2.2]) (v := .tup [.str (sgn c), .int k, .int (u.2.2 + n)])
        rw [List.length_map] at this
        rw [this]
        simpa [blkD, pieD] using hq
      · have e : addB bs c k n = bs ++ [(c, k, n)] := by simp [addB, hn, hu, hh]
        rw [e, List.map_append, e1] at hq
        rw [if_neg (by simp; intro h h'; exact hh ⟨h, by omega⟩)]
        exact ⟨hul, by simpa [blkD, pieD] using hq⟩
  · rw [addB_zero hn] at hq
    simpa [endsA, hn] using hq
def enumE : Nat → List D → List D
  | _, [] => []
  | i, x :: xs => .tup [.int (i : Nat), x] :: enumE (i + 1) xs
theorem enumE_go : ∀ (xs : List D) (i : Nat), (xs.mapIdx fun j d => D.tup [.int ((i + j : Nat) : Int), d]) = enumE i xs
  | [], i => rfl
  | x :: xs, i => by
    rw [List.mapIdx_cons, enumE, ← enumE_go xs (i + 1)]
    congr 1
    congr 1
    funext j d
    congr 3
    omega
theorem enumE_mk {xs : List D} : enumD xs = enumE 0 xs := by
  rw [← enumE_go]
  unfold enumD
  simp only [Nat.zero_add]
def parD (p : Nat × Int) : D := .tup [.int (p.1 : Int), .int p.2]
/-- the characters of a group -/
def addPt (q : Bool) : List (Nat × Int) → Bx → Bx
  | [], bs => bs
  | (k, n) :: r, bs => addPt q r (addB (addB bs 92 k (n - q01 (q && r.isEmpty))) 34 k (q01 (q && r.isEmpty)))
def c_add_parts : Ctr := fun ρ Q _ => ∃ (bs : Bx) (ps : List (Nat × Int)) (q : Bool), ρ = [.own true (bs.map blkD), .dat (.lst (ps.map parD)), .dat (.bl q)] ∧ BInv bs ∧ (∀ p ∈ ps, p.1 ≤ 200 ∧ 1 ≤ p.2) ∧ bs.length + 2 * ps.length < 16777216 ∧
  Q (.dat .non) [.own true ((addPt q ps bs).map blkD), .dat (.lst (ps.map parD)), .dat (.bl q)]
/-- add_parts, slots ['blocks', 'parts', 'quoted', 'place', 'level', 'many', 'is_last']; lends ['blocks']; gives dat -/
def b_add_parts : AS := sFor (iEnumA (aCons (aVar 1) (aNil))) (agTup (agCons (agName 3) (agCons (agTup (agCons (agName 4) (agCons (agName 5) (agNil)))) (agNil)))) (sSeq (sAsg (aAndV (aVar 2) (aOp bEq (aVar 3) (aOp bSub (aCall bLen (aCons (aVar 1) (aNil))) (aC (.int 1))))) (agName 6))
  (sSeq (sDrop (aDef c_add_block [] (rIo 0 (rDat (aC (.str "\\")) (rDat (aVar 4) (rDat (aOp bSub (aVar 5) (aCall bInt (aCons (aVar 6) (aNil)))) (rNil)))))))
  (sDrop (aDef c_add_block [] (rIo 0 (rDat (aC (.str "\"")) (rDat (aVar 4) (rDat (aCall bInt (aCons (aVar 6) (aNil))) (rNil)))))))))
theorem p_add_parts : Sat 3 7 b_add_parts c_add_parts := by
  intro ρ Q Z hl h
  obtain ⟨bs, ps, q, rfl, hi, hp, hlen, hq⟩ := h
  unfold b_add_parts
  simp [endsA]
  rw [enumE_mk]
  refine loop_of (fun ds ρ => ∃ (as : Bx) (dn us : List (Nat × Int)) (v3 v4 v5 v6 : Sv), ρ = [.own true (as.map blkD), .dat (.lst (ps.map parD)), .dat (.bl q), v3, v4, v5, v6] ∧ noV v3 ∧ noV v4 ∧ noV v5 ∧ noV v6 ∧ ds = enumE dn.length (us.map parD) ∧ ps = dn ++ us ∧ BInv as ∧ as.length ≤ bs.length + 2 * dn.length ∧ addPt q us as = addPt q ps bs) ?_ ?_ _ _ ⟨bs, [], ps, .un, .un, .un, .un, rfl, trivial, trivial, trivial, trivial, rfl, rfl, hi, by simp, rfl⟩
  · rintro ρ ⟨as, dn, us, v3, v4, v5, v6, rfl, -, -, -, -, hd, e, ha, h1, h2⟩
    have : us = [] := by cases us with
      | nil => rfl
      | cons _ _ => cases hd
    subst this
    rw [← h2] at hq
    simpa [addPt] using hq
  · rintro d ds ρ X ⟨as, dn, us, v3, v4, v5, v6, rfl, n3, n4, n5, n6, hd, e, ha, h1, h2⟩ hX
    obtain ⟨p, us, rfl, rfl, rfl⟩ : ∃ p us', us = p :: us' ∧ d = .tup [.int (dn.length : Nat), parD p] ∧ ds = enumE (dn.length + 1) (us'.map parD) := by
      cases us with
      | nil => cases hd
      | cons p us' => cases hd; exact ⟨p, us', rfl, rfl, rfl⟩
    obtain ⟨k, n⟩ := p
    obtain ⟨hk, hn⟩ := hp (k, n) (by simp [e])
    simp only at hk hn
    have hlp : ps.length = dn.length + (us.length + 1) := by simp [e]
    obtain ⟨isl, hisl⟩ : ∃ isl, (q && us.isEmpty) = isl := ⟨_, rfl⟩
    have q0 : 0 ≤ q01 isl ∧ q01 isl ≤ 1 := by cases isl <;> simp [q01]
    obtain ⟨a1, a2, a3⟩ := addB_inv (c := 92) (k := k) (n := n - q01 isl) ha (by decide) hk
    obtain ⟨b1, b2, b3⟩ := addB_inv (c := 34) (k := k) (n := q01 isl) a1 (by decide) hk
    have fin : ∀ (x3 : Int) (b : Bool), X [.own true ((addB (addB as 92 k (n - q01 isl)) 34 k (q01 isl)).map blkD), .dat (.lst (ps.map parD)), .dat (.bl q), .dat (.int x3), .dat (.int k), .dat (.int n), .dat (.bl b)] := fun x3 b =>
      hX _ ⟨_, dn ++ [(k, n)], us, _, _, _, _, rfl, trivial, trivial, trivial, trivial, by simp, by simp [e], b1, by simp; omega, by rw [← h2, addPt, hisl]⟩
    cases q with
    | false =>
      have e0 : isl = false := by rw [← hisl]; rfl
      subst e0
      simp [-q_sSeq, parD, okV_of n3, okV_of n4, okV_of n5]
      rw [q_sSeq]
      simp [-q_sSeq, okV_of n6]
      rw [q_sSeq]
      simp [-q_sSeq]
      refine ⟨as, 92, k, n, by rw [o92], ha, by decide, hk, by omega, ?_⟩
      simp
      have a2' := a2
      rw [show n - q01 false = n by simp [q01]] at a1 a2'
      refine ⟨addB as 92 k n, 34, k, 0, by rw [o34], a1, by decide, hk, by omega, ?_⟩
      simp
      simpa [q01] using fin _ _
    | true =>
      simp [-q_sSeq, parD, okV_of n3, okV_of n4, okV_of n5]
      rw [q_sSeq]
      simp [-q_sSeq, okV_of n6]
      rw [q_sSeq]
      simp [-q_sSeq]
      by_cases hlast : (dn.length : Int) = (ps.length : Int) - 1
      · have : us = [] := List.length_eq_zero_iff.mp (by omega)
        subst this
        have e0 : isl = true := by rw [← hisl]; rfl
        subst e0
        simp [hlast]
        refine ⟨as, 92, k, n - 1, by rw [o92], ha, by decide, hk, by omega, ?_⟩
        simp
        have a2' := a2
        rw [show n - q01 true = n - 1 by simp [q01]] at a1 a2'
        refine ⟨addB as 92 k (n - 1), 34, k, 1, by rw [o34], a1, by decide, hk, by omega, ?_⟩
        simp
        simpa [q01] using fin _ _
      · have hne : us.isEmpty = false := by
          cases us with
          | nil => exact absurd (by simp at hlp; omega) hlast
          | cons _ _ => rfl
        have e0 : isl = false := by rw [← hisl, hne]; rfl
        subst e0
        simp [hlast]
        refine ⟨as, 92, k, n, by rw [o92], ha, by decide, hk, by omega, ?_⟩
        simp
        have a2' := a2
        rw [show n - q01 false = n by simp [q01]] at a1 a2'
        refine ⟨addB as 92 k n, 34, k, 0, by simp [o34, hlast], a1, by decide, hk, by omega, ?_⟩
        simp
        simpa [q01] using fin _ _
theorem wid0 {c : Nat} : wid c 0 = 1 := by unfold wid; split <;> rfl
/-! the greatest history's blocks -/
structure PcOk (ps : Pc) : Prop where
  sym : ∀ p ∈ ps, symC p.1
  siz : ∀ p ∈ ps, 1 ≤ p.2.1
  pos : ∀ p ∈ ps, 1 ≤ p.2.2
  sm : ∀ p ∈ ps, smI p.2.1
def wgt (p : Nat × Int × Int) : Int := if p.1 = 92 ∨ p.1 = 34 then p.2.1 * p.2.2 else p.2.2
def sumP (ps : Pc) : Int := (ps.map wgt).sum
def capG1 (p : Nat × Int × Int) : Nat := if (p.1 = 92 ∨ p.1 = 34) ∧ p.2.1 ≠ 1 then 402 * p.2.2.toNat else 1
def capG (ps : Pc) : Nat := (ps.map capG1).sum
/-! pieces of a text -/
def txBx (ts : Tx) : Bx := ts.map fun t => (t.1, 0, t.2)
theorem txBx_ok {ts : Tx} (h : TextOk ts) : BlksOk (txBx ts) := by
  refine ⟨?_, ?_, ?_, ?_⟩ <;> intro b hb <;> obtain ⟨t, ht, rfl⟩ := List.mem_map.mp hb
  · exact h.sym t ht
  · exact Nat.zero_le _
  · exact h.pos t ht
  · exact h.sm t ht
/-! ### the pieces of a text, counted -/
theorem addP_cases {ps : Pc} {c : Nat} {z m : Int} (h : 0 < m) : addP ps c z m = ps ++ [(c, z, m)] ∨ ∃ us n, ps = us ++ [(c, z, n)] ∧ addP ps c z m = us ++ [(c, z, n + m)] := by
  unfold addP
  rw [if_pos h]
  rcases List.eq_nil_or_concat ps with rfl | ⟨us, u, hu⟩
  · exact .inl rfl
  · rw [List.concat_eq_append] at hu
    subst hu
    simp only [List.getLast?_append, List.getLast?_singleton, Option.some_or, List.dropLast_concat]
    split
    · rename_i hh
      obtain ⟨-, h1, h2⟩ := hh
      obtain ⟨c', z', n⟩ := u
      simp only at h1 h2
      subst h1 h2
      exact .inr ⟨us, n, rfl, rfl⟩
    · exact .inl rfl
theorem addP_zero {ps : Pc} {c : Nat} {z m : Int} (h : ¬ 0 < m) : addP ps c z m = ps := if_neg h
theorem wgt_add {c : Nat} {z m n : Int} : wgt (c, z, m + n) = wgt (c, z, m) + wgt (c, z, n) := by
  unfold wgt
  simp only
  split
  · exact Int.mul_add ..
  · rfl
theorem sumP_app {xs ys : Pc} : sumP (xs ++ ys) = sumP xs + sumP ys := by simp [sumP]
theorem capG_app {xs ys : Pc} : capG (xs ++ ys) = capG xs + capG ys := by simp [capG]
theorem addP_sum {ps : Pc} {c : Nat} {z m : Int} (h : 0 ≤ m) : sumP (addP ps c z m) = sumP ps + wgt (c, z, m) := by
  rcases Int.lt_or_eq_of_le h with h | h
  · rcases addP_cases (ps := ps) (c := c) (z := z) h with e | ⟨us, n, rfl, e⟩
    · rw [e, sumP_app]; simp [sumP]
    · rw [e, sumP_app, sumP_app]
      have := wgt_add (c := c) (z := z) (m := n) (n := m)
      simp [sumP]
      omega
  · subst h
    rw [addP_zero (by omega)]
    unfold wgt
    split <;> simp
theorem addP_capG {ps : Pc} {c : Nat} {z m : Int} (hp : ∀ p ∈ ps, 1 ≤ p.2.2) : capG (addP ps c z m) ≤ capG ps + (if 0 < m then capG1 (c, z, m) else 0) := by
  by_cases h : 0 < m
  · rw [if_pos h]
    rcases addP_cases (ps := ps) (c := c) (z := z) h with e | ⟨us, n, rfl, e⟩
    · rw [e, capG_app]; simp [capG]
    · rw [e, capG_app, capG_app]
      have := hp (c, z, n) (by simp)
      simp only at this
      have : capG1 (c, z, n + m) ≤ capG1 (c, z, n) + capG1 (c, z, m) := by
        unfold capG1
        simp only
        split
        · omega
        · omega
      simp [capG]
      omega
  · rw [addP_zero h, if_neg h]
    exact Nat.le_refl _
structure PcI (ps : Pc) : Prop where
  sym : ∀ p ∈ ps, symC p.1
  siz : ∀ p ∈ ps, 1 ≤ p.2.1
  pos : ∀ p ∈ ps, 1 ≤ p.2.2
  pl : ∀ p ∈ ps, ¬ (p.1 = 92 ∨ p.1 = 34) → p.2.1 = 1
theorem PcI.nil : PcI [] := ⟨by simp, by simp, by simp, by simp⟩
theorem addP_I {ps : Pc} {c : Nat} {z m : Int} (h : PcI ps) (hc : symC c) (hz : 0 < m → 1 ≤ z) (hpl : ¬ (c = 92 ∨ c = 34) → z = 1) : PcI (addP ps c z m) := by
  by_cases hm : 0 < m
  · have all : ∀ {us : Pc} {n : Int} {p : Nat × Int × Int → Prop}, (∀ x ∈ us, p x) → p (c, z, n) → ∀ x ∈ us ++ [(c, z, n)], p x := fun h1 h2 x hx => by
      rcases List.mem_append.mp hx with hx | hx
      · exact h1 x hx
      · rw [List.mem_singleton.mp hx]; exact h2
    rcases addP_cases (ps := ps) (c := c) (z := z) hm with e | ⟨us, n, rfl, e⟩
    · rw [e]
      exact ⟨all h.sym hc, all h.siz (hz hm), all h.pos (by show 1 ≤ m; omega), all h.pl hpl⟩
    · rw [e]
      have hn := h.pos (c, z, n) (by simp)
      simp only at hn
      exact ⟨all (fun x hx => h.sym x (by simp [hx])) hc, all (fun x hx => h.siz x (by simp [hx])) (hz hm), all (fun x hx => h.pos x (by simp [hx])) (by show 1 ≤ n + m; omega), all (fun x hx => h.pl x (by simp [hx])) hpl⟩
  · rw [addP_zero hm]
    exact h
theorem capG1_one {c : Nat} {w : Int} : capG1 (c, w, 1) ≤ 402 := by
  unfold capG1
  split
  · simp
  · omega
theorem addP_cap92 {ps : Pc} {w : Int} (hp : ∀ p ∈ ps, 1 ≤ p.2.2) : capG (addP ps 92 w (if 0 < w then 1 else 0)) ≤ capG ps + 402 := by
  by_cases h : 0 < w
  · rw [if_pos h]
    have := addP_capG (c := 92) (z := w) (m := 1) hp
    have c1 := capG1_one (c := 92) (w := w)
    rw [if_pos (by omega)] at this
    omega
  · rw [if_neg h, addP_zero (by omega)]
    omega
theorem piecesF_I : ∀ {bs : Bx} {w : Int} {acc : Pc}, BlksOk bs → (∀ b ∈ bs, b.2.1 = 0) → 0 ≤ w → PcI acc →
    PcI (piecesF bs w acc) ∧ sumP (piecesF bs w acc) = sumP acc + w + lenB bs ∧ capG (piecesF bs w acc) ≤ capG acc + 403 * bs.length + 402
  | [], w, acc, _, _, hw, ha => by
    rw [piecesF]
    have m0 : (0 : Int) ≤ (if 0 < w then 1 else 0) := by split <;> omega
    refine ⟨addP_I ha (by decide) (fun h => by split at h <;> omega) (fun h => absurd (.inl rfl) h), ?_, ?_⟩
    · rw [addP_sum m0]
      have : wgt (92, w, if 0 < w then 1 else 0) = w := by
        unfold wgt
        simp only [true_or, if_true]
        split <;> omega
      simp [lenB]
      omega
    · have := addP_cap92 (w := w) ha.pos
      simp only [List.length_nil]
      omega
  | (c, k, n) :: bs, w, acc, hb, h0, hw, ha => by
    have sc := hb.sym (c, k, n) (by simp)
    have sn := hb.pos (c, k, n) (by simp)
    have k0 := h0 (c, k, n) (by simp)
    simp only at sc sn k0
    subst k0
    have h0' : ∀ b ∈ bs, b.2.1 = 0 := fun b h => h0 b (by simp [h])
    have lB : lenB ((c, 0, n) :: bs) = n + lenB bs := by simp [lenB, wid0]
    rw [piecesF, lB]
    simp only [wid0, Int.mul_one, List.length_cons]
    by_cases h92 : c = 92
    · rw [if_pos h92]
      obtain ⟨r1, r2, r3⟩ := piecesF_I (w := w + n) hb.tail h0' (by omega) ha
      exact ⟨r1, by omega, by omega⟩
    · rw [if_neg h92]
      by_cases h34 : c = 34
      · rw [if_pos h34]
        have i1 := addP_I (z := w + 1) (m := 1) ha (show symC 34 by decide) (fun _ => by omega) (fun h => absurd (.inr rfl) h)
        have i2 := addP_I (z := 1) (m := n - 1) i1 (show symC 34 by decide) (fun _ => by omega) (fun h => absurd (.inr rfl) h)
        obtain ⟨r1, r2, r3⟩ := piecesF_I (w := 0) hb.tail h0' (by omega) i2
        have s1 := addP_sum (ps := addP acc 34 (w + 1) 1) (c := 34) (z := 1) (m := n - 1) (by omega)
        have s2 := addP_sum (ps := acc) (c := 34) (z := w + 1) (m := 1) (by omega)
        have w1 : wgt (34, 1, n - 1) = n - 1 := by simp [wgt]
        have w2 : wgt (34, w + 1, 1) = w + 1 := by simp [wgt]
        have c1 := addP_capG (c := 34) (z := 1) (m := n - 1) i1.pos
        have c2 := addP_capG (c := 34) (z := w + 1) (m := 1) ha.pos
        have d1 : capG1 (34, 1, n - 1) = 1 := by simp [capG1]
        have d2 := capG1_one (c := 34) (w := w + 1)
        rw [if_pos (by omega)] at c2
        exact ⟨r1, by omega, by split at c1 <;> omega⟩
      · rw [if_neg h34]
        have m0 : (0 : Int) ≤ (if 0 < w then 1 else 0) := by split <;> omega
        have i1 := addP_I (z := w) (m := if 0 < w then 1 else 0) ha (show symC 92 by decide) (fun h => by split at h <;> omega) (fun h => absurd (.inl rfl) h)
        have i2 := addP_I (z := 1) (m := n) i1 sc (fun _ => by omega) (fun _ => rfl)
        obtain ⟨r1, r2, r3⟩ := piecesF_I (w := 0) hb.tail h0' (by omega) i2
        have s1 := addP_sum (ps := addP acc 92 w (if 0 < w then 1 else 0)) (c := c) (z := 1) (m := n) (by omega)
        have s2 := addP_sum (ps := acc) (c := 92) (z := w) (m := if 0 < w then 1 else 0) m0
        have w1 : wgt (c, 1, n) = n := by unfold wgt; rw [if_neg (by simp; omega)]
        have w2 : wgt (92, w, if 0 < w then 1 else 0) = w := by
          unfold wgt
          simp only [true_or, if_true]
          split <;> omega
        have c1 := addP_capG (c := c) (z := 1) (m := n) i1.pos
        have c2 := addP_cap92 (w := w) ha.pos
        have d1 : capG1 (c, 1, n) = 1 := by unfold capG1; rw [if_neg (by simp)]
        rw [if_pos (show 0 < n by omega)] at c1
        exact ⟨r1, by omega, by omega⟩
theorem lenB_tx {ts : Tx} : lenB (txBx ts) = size ts := by
  simp [lenB, txBx, wid0, size, Function.comp_def]
theorem wgt_nonneg {p : Nat × Int × Int} (h1 : 1 ≤ p.2.1) (h2 : 1 ≤ p.2.2) : 1 ≤ wgt p ∧ (p.1 = 92 ∨ p.1 = 34 → p.2.1 ≤ wgt p) := by
  have := Int.mul_le_mul_of_nonneg_left h2 (show 0 ≤ p.2.1 by omega)
  unfold wgt
  split
  · exact ⟨by omega, fun _ => by omega⟩
  · exact ⟨h2, fun h => by contradiction⟩
theorem wgt_le_sum : ∀ {ps : Pc} {p : Nat × Int × Int}, (∀ p ∈ ps, 1 ≤ wgt p) → p ∈ ps → wgt p ≤ sumP ps ∧ 0 ≤ sumP ps
  | [], _, _, h => by cases h
  | q :: ps, p, hw, h => by
    have nn : 0 ≤ sumP ps := by
      clear h
      induction ps with
      | nil => simp [sumP]
      | cons a r ih =>
        have h1 := hw a (by simp)
        have := ih (fun x hx => hw x (by
          rcases List.mem_cons.mp hx with rfl | hx
          · simp
          · simp [hx]))
        simp [sumP] at this ⊢
        omega
    have hq := hw q (by simp)
    have e : sumP (q :: ps) = wgt q + sumP ps := by simp [sumP]
    rcases List.mem_cons.mp h with rfl | h
    · exact ⟨by omega, by omega⟩
    · have := (wgt_le_sum (fun x hx => hw x (by simp [hx])) h).1
      exact ⟨by omega, by omega⟩
theorem capG_le : ∀ {ps : Pc} {p : Nat × Int × Int}, p ∈ ps → capG1 p ≤ capG ps
  | [], _, h => by cases h
  | q :: ps, p, h => by
    have e : capG (q :: ps) = capG1 q + capG ps := by simp [capG]
    rcases List.mem_cons.mp h with rfl | h
    · omega
    · have := capG_le h
      omega
/-- all that greatest_by needs of a text's pieces -/
theorem pieces_tx {ts : Tx} (h : TextOk ts) (hs : smI (size ts)) (hl : ts.length ≤ 8000) : PcOk (piecesB (txBx ts)) ∧ sumP (piecesB (txBx ts)) = size ts ∧ capG (piecesB (txBx ts)) ≤ 16000000 ∧ ∀ p ∈ piecesB (txBx ts), p.2.2 < 2 ^ 62 ∨ ¬ (p.1 = 92 ∨ p.1 = 34) ∨ p.2.1 = 1 := by
  obtain ⟨r1, r2, r3⟩ := piecesF_I (bs := txBx ts) (w := 0) (acc := []) (txBx_ok h) (fun b hb => by obtain ⟨t, _, rfl⟩ := List.mem_map.mp hb; rfl) (by omega) .nil
  have ll : (txBx ts).length = ts.length := by simp [txBx]
  have e : sumP (piecesB (txBx ts)) = size ts := by
    show sumP (piecesF _ _ _) = _
    rw [r2, lenB_tx]
    simp [sumP]
  have cp : capG (piecesB (txBx ts)) ≤ 16000000 := by
    show capG (piecesF _ _ _) ≤ _
    have : capG [] = 0 := rfl
    omega
  have wg : ∀ p ∈ piecesB (txBx ts), 1 ≤ wgt p := fun p hp => (wgt_nonneg (r1.siz p hp) (r1.pos p hp)).1
  refine ⟨⟨r1.sym, r1.siz, r1.pos, fun p hp => ?_⟩, e, cp, fun p hp => ?_⟩
  · have h1 := r1.siz p hp
    by_cases hsp : p.1 = 92 ∨ p.1 = 34
    · have h2 := (wgt_nonneg (r1.siz p hp) (r1.pos p hp)).2 hsp
      have h3 := (wgt_le_sum wg hp).1
      rw [e] at h3
      exact Nat.lt_of_le_of_lt (by omega) hs
    · rw [r1.pl p hp hsp]
      exact smI_lit (by decide)
  · by_cases hsp : p.1 = 92 ∨ p.1 = 34
    · by_cases hz : p.2.1 = 1
      · exact .inr (.inr hz)
      · left
        have h1 := capG_le hp
        have h2 : capG1 p = 402 * p.2.2.toNat := if_pos ⟨hsp, hz⟩
        omega
    · exact .inr (.inl hsp)
/-! ### blocks, pieces and signs: what a history's text is, sign by sign -/
/-- the signs of blocks -/
def charsB (bs : Bx) : List Nat := bs.flatMap fun b => (List.replicate b.2.2.toNat (escC b.2.1 b.1)).flatten
/-- the signs of a piece -/
def pieceC (p : Nat × Int × Int) : List Nat := if p.1 = 92 then List.replicate p.2.1.toNat 92 else if p.1 ≠ 34 ∨ p.2.1 = 1 then List.replicate p.2.2.toNat p.1 else (List.replicate p.2.2.toNat (List.replicate (p.2.1 - 1).toNat 92 ++ [34])).flatten
theorem rep_add {α : Type} {m n : Int} {x : α} (hm : 0 ≤ m) (hn : 0 ≤ n) : List.replicate (m + n).toNat x = List.replicate m.toNat x ++ List.replicate n.toNat x := by
  rw [List.replicate_append_replicate]
  congr 1
  omega
theorem pieceC_add {c : Nat} {z m n : Int} (h : c ≠ 92) (hm : 0 ≤ m) (hn : 0 ≤ n) : pieceC (c, z, m + n) = pieceC (c, z, m) ++ pieceC (c, z, n) := by
  unfold pieceC
  simp only [if_neg h]
  split
  · exact rep_add hm hn
  · rw [rep_add hm hn, List.flatten_append]
/-- addP, as the signs see it -/
theorem addP_chr {ps : Pc} {c : Nat} {z m : Int} (h : 0 < m) (hp : ∀ p ∈ ps, 1 ≤ p.2.2) : (addP ps c z m).flatMap pieceC = ps.flatMap pieceC ++ pieceC (c, z, m) := by
  unfold addP
  rw [if_pos h]
  rcases List.eq_nil_or_concat ps with rfl | ⟨us, u, hu⟩
  · simp
  · rw [List.concat_eq_append] at hu
    subst hu
    simp only [List.getLast?_append, List.getLast?_singleton, Option.some_or, List.dropLast_concat]
    split
    · rename_i hh
      obtain ⟨h0, h1, h2⟩ := hh
      obtain ⟨c', z', n⟩ := u
      simp only at h1 h2
      subst h1 h2
      have hn := hp (c', z', n) (by simp)
      simp only at hn
      rw [List.flatMap_append, List.flatMap_append, List.append_assoc]
      congr 1
      simp only [List.flatMap_cons, List.flatMap_nil, List.append_nil]
      exact pieceC_add h0 (by omega) (by omega)
    · simp
theorem flat_rep {c : Nat} : ∀ n : Nat, (List.replicate n [c]).flatten = List.replicate n c
  | 0 => rfl
  | n + 1 => by rw [List.replicate_succ, List.flatten_cons, flat_rep n, List.replicate_succ]; rfl
theorem flat_rep92 {k : Nat} : ∀ n : Nat, (List.replicate n (List.replicate k 92)).flatten = List.replicate (n * k) 92
  | 0 => by simp
  | n + 1 => by rw [List.replicate_succ, List.flatten_cons, flat_rep92 n, List.replicate_append_replicate, Nat.succ_mul, Nat.add_comm]
theorem wid92 {k : Nat} : wid 92 k = ((2 ^ k : Nat) : Int) := by simp [wid]
theorem wid34 {k : Nat} : wid 34 k = ((2 ^ k : Nat) : Int) := by simp [wid]
theorem addP_mny {ps : Pc} {c : Nat} {z m : Int} (hp : ∀ p ∈ ps, 1 ≤ p.2.2) : ∀ p ∈ addP ps c z m, 1 ≤ p.2.2 := by
  by_cases hm : 0 < m
  · rcases addP_cases (ps := ps) (c := c) (z := z) hm with e | ⟨us, n, rfl, e⟩
    · rw [e]
      intro p h
      rcases List.mem_append.mp h with h | h
      · exact hp p h
      · rw [List.mem_singleton.mp h]; show 1 ≤ m; omega
    · rw [e]
      have hn := hp (c, z, n) (by simp)
      simp only at hn
      intro p h
      rcases List.mem_append.mp h with h | h
      · exact hp p (by simp [h])
      · rw [List.mem_singleton.mp h]; show 1 ≤ n + m; omega
  · rw [addP_zero hm]
    exact hp
theorem addP_chr0 {ps : Pc} {c : Nat} {z m : Int} (h : 0 ≤ m) (hp : ∀ p ∈ ps, 1 ≤ p.2.2) (hc : c ≠ 92) : (addP ps c z m).flatMap pieceC = ps.flatMap pieceC ++ pieceC (c, z, m) := by
  rcases Int.lt_or_eq_of_le h with h | h
  · exact addP_chr h hp
  · subst h
    rw [addP_zero (by omega)]
    unfold pieceC
    simp [hc]
theorem addP_chrW {ps : Pc} {w : Int} (hw : 0 ≤ w) (hp : ∀ p ∈ ps, 1 ≤ p.2.2) : (addP ps 92 w (if 0 < w then 1 else 0)).flatMap pieceC = ps.flatMap pieceC ++ List.replicate w.toNat 92 := by
  by_cases h : 0 < w
  · rw [if_pos h, addP_chr (by omega) hp]
    simp [pieceC]
  · have : w = 0 := by omega
    subst this
    simp [addP_zero]
/-- the pieces of blocks have the blocks' signs -/
theorem piecesF_chr : ∀ {bs : Bx} {w : Int} {acc : Pc}, (∀ b ∈ bs, 1 ≤ b.2.2) → 0 ≤ w → (∀ p ∈ acc, 1 ≤ p.2.2) → (piecesF bs w acc).flatMap pieceC = acc.flatMap pieceC ++ List.replicate w.toNat 92 ++ charsB bs
  | [], w, acc, _, hw, ha => by
    rw [piecesF, addP_chrW hw ha]
    simp [charsB]
  | (c, k, n) :: bs, w, acc, hb, hw, ha => by
    have hn := hb (c, k, n) (by simp)
    simp only at hn
    have hb' : ∀ b ∈ bs, 1 ≤ b.2.2 := fun b h => hb b (by simp [h])
    have e : charsB ((c, k, n) :: bs) = (List.replicate n.toNat (escC k c)).flatten ++ charsB bs := by simp [charsB]
    rw [piecesF, e]
    simp only
    by_cases h92 : c = 92
    · subst h92
      rw [if_pos rfl, wid92]
      have pk : (0 : Int) ≤ n * ((2 ^ k : Nat) : Int) := Int.mul_nonneg (by omega) (Int.natCast_nonneg _)
      rw [piecesF_chr hb' (Int.add_nonneg hw pk) ha, rep_add hw pk]
      have e2 : (List.replicate n.toNat (escC k 92)).flatten = List.replicate (n * ((2 ^ k : Nat) : Int)).toNat 92 := by
        rw [show escC k 92 = List.replicate (2 ^ k) 92 from rfl, flat_rep92]
        congr 1
        obtain ⟨m, rfl⟩ : ∃ m : Nat, n = m := ⟨n.toNat, by omega⟩
        generalize 2 ^ k = q
        rw [← Int.natCast_mul]
        rfl
      rw [e2]
      simp only [List.append_assoc]
    · rw [if_neg h92]
      by_cases h34 : c = 34
      · subst h34
        rw [if_pos rfl, wid34]
        have i1 := addP_mny (c := 34) (z := w + ((2 ^ k : Nat) : Int)) (m := 1) ha
        rw [piecesF_chr hb' (by omega) (addP_mny i1), addP_chr0 (by omega) i1 (by decide), addP_chr (by omega) ha]
        have pk := pow_pos2 k
        rw [show escC k 34 = List.replicate (2 ^ k - 1) 92 ++ [34] from rfl]
        generalize 2 ^ k = q at pk ⊢
        have f1 : pieceC (34, w + (q : Int), 1) = List.replicate w.toNat 92 ++ (List.replicate (q - 1) 92 ++ [34]) := by
          show (if _ then _ else if _ then _ else _) = _
          rw [if_neg (show ¬ (34 : Nat) = 92 by decide), ← List.append_assoc, List.replicate_append_replicate]
          by_cases h1 : w + (q : Int) = 1
          · rw [if_pos (.inr h1)]
            have : w.toNat + (q - 1) = 0 := by omega
            rw [this]
            rfl
          · rw [if_neg (by simp; exact h1)]
            have : (w + (q : Int) - 1).toNat = w.toNat + (q - 1) := by omega
            simp only [this]
            simp
        have f2 : pieceC (34, (q : Int), n - 1) = (List.replicate (n - 1).toNat (List.replicate (q - 1) 92 ++ [34])).flatten := by
          show (if _ then _ else if _ then _ else _) = _
          rw [if_neg (show ¬ (34 : Nat) = 92 by decide)]
          by_cases h1 : (q : Int) = 1
          · rw [if_pos (.inr h1)]
            have : q - 1 = 0 := by omega
            rw [this]
            simp only [List.replicate_zero, List.nil_append]
            rw [flat_rep]
          · rw [if_neg (by simp; omega)]
            have : ((q : Int) - 1).toNat = q - 1 := by omega
            simp only [this]
        rw [f1, f2]
        have e3 : ∀ x : List Nat, (List.replicate n.toNat x).flatten = x ++ (List.replicate (n - 1).toNat x).flatten := fun x => by
          rw [show n.toNat = (n - 1).toNat + 1 by omega, List.replicate_succ, List.flatten_cons]
        rw [e3]
        simp only [List.append_assoc, Int.toNat_zero, List.replicate_zero, List.nil_append]
      · rw [if_neg h34]
        have i1 := addP_mny (c := 92) (z := w) (m := if 0 < w then 1 else 0) ha
        rw [piecesF_chr hb' (by omega) (addP_mny i1), addP_chr0 (by omega) i1 h92, addP_chrW hw ha]
        have f1 : pieceC (c, 1, n) = (List.replicate n.toNat (escC k c)).flatten := by
          show (if _ then _ else if _ then _ else _) = _
          rw [if_neg h92, if_pos (.inl h34)]
          rw [show escC k c = [c] by simp [escC, h92, h34], flat_rep]
        rw [f1]
        simp only [List.append_assoc, Int.toNat_zero, List.replicate_zero, List.nil_append]
/-! ### the pieces depend on the signs alone -/
def unitB (l : List Nat) : Bx := l.map fun c => (c, 0, 1)
theorem unitB_app {x y : List Nat} : unitB (x ++ y) = unitB x ++ unitB y := by simp [unitB]
theorem piecesF_92 {bs : Bx} {acc : Pc} : ∀ {m : Nat} {w : Int}, piecesF (unitB (List.replicate m 92) ++ bs) w acc = piecesF bs (w + m) acc
  | 0, w => by simp [unitB]
  | m + 1, w => by
    show piecesF ((92, 0, 1) :: (unitB (List.replicate m 92) ++ bs)) w acc = _
    rw [piecesF]
    simp only [if_true, wid0]
    rw [piecesF_92]
    congr 1
    push_cast
    omega
theorem addP_addP {ps : Pc} {c : Nat} {z m n : Int} (h : c ≠ 92) (hm : 0 < m) (hn : 0 < n) : addP (addP ps c z m) c z n = addP ps c z (m + n) := by
  rcases List.eq_nil_or_concat ps with rfl | ⟨us, u, hu⟩
  · simp [addP, hm, hn, h, show 0 < m + n by omega]
  · rw [List.concat_eq_append] at hu
    subst hu
    by_cases hh : u.1 = c ∧ u.2.1 = z
    · simp [addP, hm, hn, h, hh, show 0 < m + n by omega, Int.add_assoc]
    · have hh' : ¬ (c ≠ 92 ∧ u.1 = c ∧ u.2.1 = z) := fun q => hh q.2
      have e1 : addP (us ++ [u]) c z m = us ++ [u] ++ [(c, z, m)] := by
        unfold addP
        rw [if_pos hm]
        simp only [List.getLast?_append, List.getLast?_singleton, Option.some_or]
        rw [if_neg hh']
      have e2 : addP (us ++ [u]) c z (m + n) = us ++ [u] ++ [(c, z, m + n)] := by
        unfold addP
        rw [if_pos (by omega)]
        simp only [List.getLast?_append, List.getLast?_singleton, Option.some_or]
        rw [if_neg hh']
      rw [e1, e2]
      simp [addP, hn, h]
theorem piecesF_34 {bs : Bx} {acc : Pc} {q : Nat} (hq : 0 < q) {w : Int} : piecesF (unitB (List.replicate (q - 1) 92 ++ [34]) ++ bs) w acc = piecesF bs 0 (addP acc 34 (w + q) 1) := by
  rw [unitB_app, List.append_assoc, piecesF_92]
  show piecesF ((34, 0, 1) :: bs) _ acc = _
  rw [piecesF]
  simp only [wid0]
  rw [if_neg (by decide), if_pos trivial, addP_zero (m := 1 - 1) (by decide)]
  congr 2
  omega
theorem piecesF_34s {bs : Bx} {q : Nat} (hq : 0 < q) : ∀ {m : Nat} {acc : Pc}, piecesF (unitB (List.replicate m (List.replicate (q - 1) 92 ++ [34])).flatten ++ bs) 0 acc = piecesF bs 0 (addP acc 34 q m)
  | 0, acc => by
    rw [addP_zero (by simp)]
    simp [unitB]
  | m + 1, acc => by
    rw [List.replicate_succ, List.flatten_cons, unitB_app, List.append_assoc, piecesF_34 hq, piecesF_34s hq, Int.zero_add]
    congr 1
    by_cases h : m = 0
    · subst h
      rw [addP_zero (m := ((0 : Nat) : Int)) (by simp)]
      rfl
    · rw [addP_addP (by decide) (by decide) (by omega)]
      congr 1
      push_cast
      omega
theorem addP92_0 {acc : Pc} : addP acc 92 0 (if (0 : Int) < 0 then 1 else 0) = acc := addP_zero (by decide)
theorem piecesF_pl {bs : Bx} {c : Nat} (h1 : c ≠ 92) (h2 : c ≠ 34) : ∀ {m : Nat} {acc : Pc}, piecesF (unitB (List.replicate m c) ++ bs) 0 acc = piecesF bs 0 (addP acc c 1 m)
  | 0, acc => by
    rw [addP_zero (by simp)]
    simp [unitB]
  | m + 1, acc => by
    show piecesF ((c, 0, 1) :: (unitB (List.replicate m c) ++ bs)) 0 acc = _
    rw [piecesF]
    simp only
    rw [if_neg h1, if_neg h2, addP92_0, piecesF_pl h1 h2]
    congr 1
    by_cases h : m = 0
    · subst h
      rw [addP_zero (m := ((0 : Nat) : Int)) (by simp)]
      rfl
    · rw [addP_addP h1 (by decide) (by omega)]
      congr 1
      push_cast
      omega
theorem piecesF_c92 {bs : Bx} {k : Nat} {n w : Int} {acc : Pc} : piecesF ((92, k, n) :: bs) w acc = piecesF bs (w + n * wid 92 k) acc := by
  rw [piecesF]
  exact if_pos rfl
theorem piecesF_c34 {bs : Bx} {k : Nat} {n w : Int} {acc : Pc} : piecesF ((34, k, n) :: bs) w acc = piecesF bs 0 (addP (addP acc 34 (w + wid 34 k) 1) 34 (wid 34 k) (n - 1)) := by
  rw [piecesF]
  exact (if_neg (show ¬ (34 : Nat) = 92 by decide)).trans (if_pos rfl)
theorem piecesF_cp {bs : Bx} {c k : Nat} {n w : Int} {acc : Pc} (h1 : c ≠ 92) (h2 : c ≠ 34) : piecesF ((c, k, n) :: bs) w acc = piecesF bs 0 (addP (addP acc 92 w (if 0 < w then 1 else 0)) c 1 n) := by
  rw [piecesF]
  exact (if_neg h1).trans (if_neg h2)
theorem piecesF_unit : ∀ {bs : Bx} {w : Int} {acc : Pc}, (∀ b ∈ bs, 1 ≤ b.2.2) → piecesF (unitB (charsB bs)) w acc = piecesF bs w acc
  | [], w, acc, _ => rfl
  | (c, k, n) :: bs, w, acc, hb => by
    have hn := hb (c, k, n) (by simp)
    simp only at hn
    have hb' : ∀ b ∈ bs, 1 ≤ b.2.2 := fun b h => hb b (by simp [h])
    have e : charsB ((c, k, n) :: bs) = (List.replicate n.toNat (escC k c)).flatten ++ charsB bs := by simp [charsB]
    obtain ⟨m, rfl⟩ : ∃ m : Nat, n = (m + 1 : Nat) := ⟨n.toNat - 1, by omega⟩
    rw [e, unitB_app, Int.toNat_natCast]
    by_cases h92 : c = 92
    · subst h92
      rw [show escC k 92 = List.replicate (2 ^ k) 92 from rfl, flat_rep92, piecesF_92, piecesF_unit hb', piecesF_c92, wid92]
      congr 1
    · by_cases h34 : c = 34
      · subst h34
        rw [show escC k 34 = List.replicate (2 ^ k - 1) 92 ++ [34] from rfl, List.replicate_succ, List.flatten_cons, unitB_app, List.append_assoc, piecesF_34 (pow_pos2 k), piecesF_34s (pow_pos2 k), piecesF_unit hb', piecesF_c34, wid34]
        congr 2
        push_cast
        omega
      · rw [show escC k c = [c] by simp [escC, h92, h34], flat_rep]
        show piecesF ((c, 0, 1) :: (unitB (List.replicate m c) ++ unitB (charsB bs))) w acc = _
        rw [piecesF_cp h92 h34, piecesF_cp h92 h34, piecesF_pl h92 h34, piecesF_unit hb']
        congr 1
        by_cases h : m = 0
        · subst h
          rw [addP_zero (m := ((0 : Nat) : Int)) (by simp)]
          rfl
        · rw [addP_addP (m := 1) h92 (by decide) (by omega)]
          congr 1
          push_cast
          omega
/-- blocks with the same signs have the same pieces -/
theorem pieces_same {xs ys : Bx} (hx : ∀ b ∈ xs, 1 ≤ b.2.2) (hy : ∀ b ∈ ys, 1 ≤ b.2.2) (h : charsB xs = charsB ys) : piecesB xs = piecesB ys := by
  show piecesF xs 0 [] = piecesF ys 0 []
  rw [← piecesF_unit hx, ← piecesF_unit hy, h]
/-! ### escapes, and texts of histories -/
theorem charsB_tx {ts : Tx} : charsB (txBx ts) = expand ts := by
  induction ts with
  | nil => rfl
  | cons t ts ih =>
    have e : charsB (txBx (t :: ts)) = (List.replicate t.2.toNat (escC 0 t.1)).flatten ++ charsB (txBx ts) := by simp [charsB, txBx]
    have e0 : escC 0 t.1 = [t.1] := by
      unfold escC
      split
      · rename_i h; simp [h]
      · split
        · rename_i h; simp [h]
        · rfl
    rw [e, ih, e0, flat_rep]
    simp [expand]
/-- the pieces of a text with the signs of blocks are the blocks' pieces -/
theorem pieces_tx_of {bs : Bx} {ts : Tx} (hb : ∀ b ∈ bs, 1 ≤ b.2.2) (ht : ∀ t ∈ ts, 1 ≤ t.2) (h : expand ts = charsB bs) : piecesB bs = piecesB (txBx ts) :=
  pieces_same hb (fun b hb => by obtain ⟨t, h1, rfl⟩ := List.mem_map.mp hb; exact ht t h1) (by rw [charsB_tx, h])
/-! the least number of powers of two, none above 2 ^ b, that make z -/
/-! ### the greatest history has the fewest characters -/
/-! ### .. for histories in blocks -/
def chrs (bs : Bx) : List (Nat × Nat) := bs.flatMap fun b => List.replicate b.2.2.toNat (b.1, b.2.1)
/-! ### the greatest history: its number of characters, its levels -/
/-- blocks whose levels fall to at least b -/
structure DownB (b : Nat) (bs : Bx) : Prop where
  chn : Chn bs
  low : ∀ x ∈ bs, b ≤ x.2.1
theorem DownB.nil {b : Nat} : DownB b [] := ⟨trivial, by simp⟩
theorem DownB.le {b b' : Nat} {bs : Bx} (h : DownB b bs) (l : b' ≤ b) : DownB b' bs := ⟨h.chn, fun x hx => Nat.le_trans l (h.low x hx)⟩
/-! ### the greatest history of an escaped text -/
/-! ### the bag of the laws k16 to k34 -/
theorem get_erase {α : Type} : ∀ {xs : List α} {j : Nat} (h : j < xs.length), (xs[j] :: xs.eraseIdx j).Perm xs
  | x :: xs, 0, _ => List.Perm.refl _
  | x :: xs, j + 1, h => by
    have h' : j < xs.length := by simpa using h
    show ((xs[j]) :: x :: xs.eraseIdx j).Perm (x :: xs)
    exact (List.Perm.swap x _ _).trans (List.Perm.cons x (get_erase h'))
/-- a bag that b more draws may be taken from -/
def Bag (b : Nat) (r : List D) : Prop := ∃ (ns : List Int) (a q c t : Int), r = [.lst (ns.map .int), .int a, .int q, .int c, .int t] ∧ ns.length ≤ 63 ∧ 0 ≤ a ∧ a ≤ ns.length ∧ 0 ≤ c ∧ c + b ≤ 2 ^ 62 ∧ 0 ≤ t ∧ t < 2 ^ 62
theorem Bag.mono {b b' : Nat} {r : List D} (h : Bag b r) (l : b' ≤ b) : Bag b' r := by
  obtain ⟨ns, a, q, c, t, h1, h2, h3, h4, h5, h6, h7, h8⟩ := h
  exact ⟨ns, a, q, c, t, h1, h2, h3, h4, h5, by omega, h7, h8⟩
def c_l_bag : Ctr := fun ρ Q _ => ∃ ns : List Int, ρ = [.dat (.lst (ns.map .int))] ∧ ns.length ≤ 63 ∧ ∀ r, Bag (2 ^ 60) r → Q (.own false r) [.dat (.lst (ns.map .int))]
/-- l_bag, slots ['l_script', 'l_total', 'l_cell']; lends []; gives own -/
def b_l_bag : AS := sSeq (sAsg (aC (.int 1)) (agName 1))
  (sSeq (sFor (iAny (aVar 0)) (agName 2) (sAsg (aOp bMod (aOp bAddB (aOp bAddB (aOp bMulB (aVar 1) (aC (.int 1000003))) (aOp bMod (aVar 2) (aC (.int 2305843009213693951)))) (aC (.int 1))) (aC (.int 2305843009213693951))) (agName 1)))
  (sRetO (oLst (aCons (aFrz (oListA (aCons (aVar 0) (aNil)))) (aCons (aC (.int 0)) (aCons (aC (.int 0)) (aCons (aC (.int 0)) (aCons (aVar 1) (aNil)))))))))
theorem p_l_bag : Sat 1 3 b_l_bag c_l_bag := by
  intro ρ Q Z hl h
  obtain ⟨ns, rfl, hn, hq⟩ := h
  have h5 : ∀ i, CDivW i 2305843009213693951 := fun i => cdivW_of (by omega) (by omega)
  unfold b_l_bag
  simp [endsA]
  refine loop_of (fun ds ρ => ∃ (t : Int) (v2 : Sv) (us : List Int), ρ = [.dat (.lst (ns.map .int)), .dat (.int t), v2] ∧ noV v2 ∧ ds = us.map .int ∧ 0 ≤ t ∧ t < 2 ^ 62) ?_ ?_ _ _ ⟨1, .un, ns, rfl, trivial, rfl, by decide, by decide⟩
  · rintro ρ ⟨t, v2, us, rfl, -, -, h0, h1⟩
    simp
    exact hq _ ⟨ns, 0, 0, 0, t, rfl, hn, by omega, by omega, by omega, by omega, h0, h1⟩
  · rintro d ds ρ X ⟨t, v2, us, rfl, n2, hd, h0, h1⟩ hX
    obtain ⟨x, us, rfl, rfl, rfl⟩ : ∃ x us', us = x :: us' ∧ d = .int x ∧ ds = us'.map .int := by
      cases us with
      | nil => cases hd
      | cons b us' => cases hd; exact ⟨b, us', rfl, rfl, rfl⟩
    have c1 : CMulA t 1000003 := cmul_lit (by omega)
    simp [okV_of n2, h5, c1]
    exact hX _ ⟨_, _, us, rfl, trivial, rfl, Int.emod_nonneg _ (by omega), Int.lt_trans (Int.emod_lt_of_pos _ (by omega)) (by omega)⟩
def c_l_stir : Ctr := fun ρ Q _ => ∃ n p : Int, ρ = [.dat (.int n), .dat (.int p)] ∧ 0 ≤ p ∧ p ≤ 2 ^ 62 ∧ ∀ k : Int, Q (.dat (.int k)) [.dat (.int n), .dat (.int p)]
/-- l_stir, slots ['l_number', 'l_place', 'l_one', 'l_two']; lends []; gives dat -/
def b_l_stir : AS := sSeq (sAsg (aOp bMod (aOp bAddB (aOp bAddB (aOp bMulB (aVar 0) (aC (.int 998244353))) (aOp bMulB (aVar 1) (aC (.int 1000000007)))) (aC (.int 5))) (aC (.int 2305843009213693951))) (agName 2))
  (sSeq (sAsg (aOp bMod (aOp bMulB (aVar 2) (aVar 2)) (aC (.int 2305843009213693951))) (agName 3))
  (sRet (aOp bDiv (aOp bMod (aOp bAddB (aOp bAddB (aOp bMulB (aVar 3) (aC (.int 2860486313))) (aOp bMulB (aOp bMulB (aVar 1) (aVar 1)) (aC (.int 48271)))) (aOp bDiv (aVar 2) (aC (.int 3)))) (aC (.int 2305843009213693921))) (aC (.int 1024)))))
theorem p_l_stir : Sat 2 4 b_l_stir c_l_stir := by
  intro ρ Q Z hl h
  obtain ⟨n, p, rfl, h0, h1, hq⟩ := h
  have h5 : ∀ i, CDivW i 2305843009213693951 := fun i => cdivW_of (by omega) (by omega)
  have h6 : ∀ i, CDivW i 2305843009213693921 := fun i => cdivW_of (by omega) (by omega)
  have h7 : ∀ i, CDivW i 3 := fun i => cdivW_of (by omega) (by omega)
  have h8 : ∀ i, CDivW i 1024 := fun i => cdivW_of (by omega) (by omega)
  have c1 : CMulA n 998244353 := cmul_lit (by omega)
  have c2 : CMulA p 1000000007 := cmul_lit (by omega)
  have c3 : CMulA p p := cmulA_x (Nat.lt_of_le_of_lt (show p.natAbs ≤ 2 ^ 62 by omega) (by decide +kernel)) (Nat.lt_of_le_of_lt (show p.natAbs ≤ 2 ^ 62 by omega) (by decide +kernel))
  have c4 : CMulA (p * p) 48271 := cmul_lit (by omega)
  have c5 : ∀ i : Int, CMulA i 2860486313 := fun i => cmul_lit (by omega)
  have c6 : ∀ i : Int, CMulA (i % 2305843009213693951) (i % 2305843009213693951) := fun i => by
    have a1 := Int.emod_nonneg i (show (2305843009213693951 : Int) ≠ 0 by decide)
    have a2 := Int.emod_lt_of_pos i (show (0 : Int) < 2305843009213693951 by decide)
    exact cmulA_x (Nat.lt_of_le_of_lt (show _ ≤ 2 ^ 62 by omega) (by decide +kernel)) (Nat.lt_of_le_of_lt (show _ ≤ 2 ^ 62 by omega) (by decide +kernel))
  unfold b_l_stir
  simp [endsA, h5, h6, h7, h8, c1, c2, c3, c4, c5, c6]
  exact hq _
def c_g_draw : Ctr := fun ρ Q _ => ∃ b r m, ρ = [.own true r, .dat (.int m)] ∧ Bag (b + 1) r ∧ CDivW 0 m ∧ ∀ r' k, Bag b r' → 0 ≤ k → k < m → Q (.dat (.int k)) [.own true r', .dat (.int m)]
/-- g_draw, slots ['l_bag_here', 'l_bound', 'l_cell', 'l_found']; lends ['l_bag_here']; gives dat -/
def b_g_draw : AS := sSeq (sIf (tCmpV bEq (vVar 1) (vC (.int 1))) (sRet (aC (.int 0))) (sNx))
  (sSeq (sPutO 0 (aOp bAddB (aOwnIx 0 (aC (.int 3))) (aC (.int 1))) (aC (.int 3)))
  (sSeq (sIf (aAnd (tCmpV bLt (vOp bIx (vVar 0) (vC (.int 2))) (vC (.int 2))) (tCmpV bEq (vOp bIx (vVar 0) (vC (.int 1))) (vCall bLen (vCons (vOp bIx (vVar 0) (vC (.int 0))) (vNil))))) (sRet (aOp bMod (aDef c_l_stir [] (rDat (aOwnIx 0 (aC (.int 4))) (rDat (aOwnIx 0 (aC (.int 3))) (rNil)))) (aVar 1))) (sNx))
  (sSeq (sIf (tCmpV bLt (vOp bIx (vVar 0) (vC (.int 2))) (vC (.int 2))) (sSeq (sAsg (aOp bIx (aOwnIx 0 (aC (.int 0))) (aOwnIx 0 (aC (.int 1)))) (agName 2))
  (sSeq (sPutO 0 (aOp bAddB (aOwnIx 0 (aC (.int 1))) (aC (.int 1))) (aC (.int 1)))
  (sSeq (sIf (tCmpV bLt (vVar 2) (vOp bPow (vC (.int 10)) (vC (.int 18)))) (sRet (aOp bMod (aDef c_l_stir [] (rDat (aOp bMod (aVar 2) (aC (.int 2305843009213693951))) (rDat (aOwnIx 0 (aC (.int 3))) (rNil)))) (aVar 1))) (sNx))
  (sPutO 0 (aOp bSub (aVar 2) (aOp bPow (aC (.int 10)) (aC (.int 18)))) (aC (.int 2)))))) (sNx))
  (sSeq (sAsg (aOp bMod (aOwnIx 0 (aC (.int 2))) (aVar 1)) (agName 3))
  (sSeq (sPutO 0 (aOp bDiv (aOwnIx 0 (aC (.int 2))) (aVar 1)) (aC (.int 2)))
  (sRet (aVar 3)))))))
theorem p_g_draw : Sat 2 4 b_g_draw c_g_draw := by
  intro ρ Q Z hl h
  obtain ⟨b, r, m, rfl, ⟨ns, a, q, c, t, rfl, hn, ha0, ha, hc0, hc, ht0, ht⟩, hm2, hq⟩ := h
  have hm := hm2.1
  have hdiv : ∀ i, CDivW i m := fun i => hm2
  have h5 : ∀ i, CDivW i 2305843009213693951 := fun i => cdivW_of (by omega) (by omega)
  have fin : ∀ (k : Int) (r' : List D), Bag b r' → Q (.dat (.int (k % m))) [.own true r', .dat (.int m)] := fun k r' hr => hq r' _ hr (Int.emod_nonneg _ (by omega)) (Int.emod_lt_of_pos _ hm)
  have bag' : ∀ a' q' : Int, 0 ≤ a' → a' ≤ ns.length → Bag b [.lst (ns.map .int), .int a', .int q', .int (c + 1), .int t] := fun a' q' h1 h2 => ⟨ns, a', q', c + 1, t, rfl, hn, h1, h2, by omega, by omega, ht0, ht⟩
  unfold b_g_draw
  simp [endsA, ixN, hdiv]
  by_cases hm1 : m = 1
  · subst hm1
    simp
    exact hq _ 0 ⟨ns, a, q, c, t, rfl, hn, ha0, ha, hc0, by omega, ht0, ht⟩ (by omega) (by omega)
  · have lit : D.int 10 = D.int 10 := rfl
    have at4 : ∀ x0 x1 x2 x3 x4 : D, atI [x0, x1, x2, x3, x4] 4 = some x4 := fun _ _ _ _ _ => rfl
    simp [hm1, at4]
    by_cases hq2 : q < 2
    · simp [hq2]
      by_cases hal : a = ns.length
      · simp [hal]
        refine ⟨t, c + 1, rfl, by omega, by omega, fun k => ?_⟩
        simp [hdiv]
        have := bag' ns.length q (by omega) (by omega)
        exact ⟨hm, fin _ _ this⟩
      · simp [hal]
        obtain ⟨x, hx⟩ : ∃ x, ns[a.toNat]? = some x := ⟨_, List.getElem?_eq_getElem (by omega)⟩
        have hat : atI (ns.map D.int) a = some (.int x) := atI_of ha0 (by rw [List.getElem?_map, hx]; rfl)
        refine ⟨.int x, hat, ?_⟩
        by_cases hx18 : x < 1000000000000000000
        · simp [hx18, h5]
          refine ⟨_, c + 1, rfl, by omega, by omega, fun k => ?_⟩
          simp [hdiv]
          exact ⟨hm, fin _ _ (bag' (a + 1) q (by omega) (by omega))⟩
        · simp [hx18, hdiv, ixN]
          exact ⟨hm, fin _ _ (bag' (a + 1) _ (by omega) (by omega))⟩
    · simp [hq2]
      exact ⟨hm, fin q _ (bag' a _ ha0 ha)⟩
def c_l_shuffled : Ctr := fun ρ Q _ => ∃ b r xs, ρ = [.own true r, .dat (.lst xs)] ∧ xs.length ≤ 100000 ∧ Bag (b + xs.length) r ∧ ∀ r' ys, Bag b r' → ys.Perm xs → Q (.own false ys) [.own true r', .dat (.lst xs)]
/-- l_shuffled, slots ['l_bag_here', 'l_items', 'l_left', 'l_step']; lends ['l_bag_here']; gives own -/
def b_l_shuffled : AS := sSeq (sSetO (oListA (aCons (aVar 1) (aNil))) 2)
  (sRetO (oLc (iRange1 (aCons (aCall bLen (aCons (aVar 1) (aNil))) (aNil))) (agName 3) (aYes) (aPopAt 2 (aDef c_g_draw [] (rIo 0 (rDat (aFlat (vCall bLen (vCons (vVar 2) (vNil)))) (rNil))))) [3]))
theorem p_l_shuffled : Sat 2 4 b_l_shuffled c_l_shuffled := by
  intro ρ Q Z hl h
  obtain ⟨b, r, xs, rfl, hx, hr, hq⟩ := h
  unfold b_l_shuffled
  simp [endsA]
  refine ⟨by omega, ?_⟩
  refine comp_of (fun ds acc ρ' => ∃ r' left v3, ρ' = [.own true r', .dat (.lst xs), .own false left, v3] ∧ Bag (b + left.length) r' ∧ left.length = ds.length ∧ (acc ++ left).Perm xs ∧ v3 = .un) ?_ ?_ _ [] _ ⟨r, xs, .un, rfl, hr, by simp [rangeD], List.Perm.refl _, rfl⟩
  · rintro acc ρ ⟨r', left, v3, rfl, hb, hl, hp, rfl⟩
    have : left = [] := by cases left <;> simp_all
    subst this
    simp at hp hb ⊢
    exact hq _ _ hb hp
  · rintro d ds acc ρ X ⟨r', left, v3, rfl, hb, hl, hp, rfl⟩ hX
    simp only [List.length_cons] at hl
    have hp2 := hp.length_eq
    simp only [List.length_append] at hp2
    simp
    refine ⟨b + ds.length, r', left.length, rfl, by rw [hl] at hb; exact hb, cdiv_lit (by omega), fun r2 k hr2 h0 h1 => ?_⟩
    simp
    have hk : k.toNat < left.length := by omega
    refine ⟨k.toNat, ?_, by omega, by omega, left[k.toNat], List.getElem?_eq_getElem hk, by omega, hX _ _ ⟨r2, left.eraseIdx k.toNat, .un, rfl, ?_, ?_, ?_, rfl⟩⟩
    · unfold ixN
      rw [if_pos h0, if_pos h1]
    · rw [List.length_eraseIdx_of_lt hk, hl]
      exact hr2
    · rw [List.length_eraseIdx_of_lt hk, hl]
      rfl
    · refine List.Perm.trans ?_ hp
      rw [List.append_assoc]
      exact List.Perm.append_left acc (get_erase hk)
/-! ### drawn symbols -/
def plainsS : Str := "abcdefghijklmnopqrstuvwABCDEFGHIJKLMNOPQRSTUVWXYZ 0123456789!#$&'()*+,-./:;<=>?@\x5b]^_`{|}~"
def c_l_plains : Ctr := fun ρ Q _ => ρ = [] ∧ Q (.dat (.str plainsS)) []
/-- l_plains, slots ['l_letters']; lends []; gives dat -/
def b_l_plains : AS := sSeq (sAsg (aC (.str "abcdefghijklmnopqrstuvw")) (agName 0))
  (sRet (aOp bAddB (aOp bAddB (aVar 0) (aUpp (aVar 0))) (aC (.str "XYZ 0123456789!#$&'()*+,-./:;<=>?@\x5b]^_`{|}~"))))
theorem p_l_plains : Sat 0 1 b_l_plains c_l_plains := by
  intro ρ Q Z hl h
  obtain ⟨rfl, hq⟩ := h
  have e : Str.ofString "abcdefghijklmnopqrstuvw" ++ Txt.upper (Str.ofString "abcdefghijklmnopqrstuvw") ++ Str.ofString "XYZ 0123456789!#$&'()*+,-./:;<=>?@\x5b]^_`{|}~" = plainsS := by decide +kernel
  have l1 : (Str.ofString "abcdefghijklmnopqrstuvw").length = 23 := by decide +kernel
  have l2 : (Txt.upper (Str.ofString "abcdefghijklmnopqrstuvw")).length = 23 := by decide +kernel
  have l3 : (Str.ofString "XYZ 0123456789!#$&'()*+,-./:;<=>?@\x5b]^_`{|}~").length = 43 := by decide +kernel
  have l4 : (Str.ofString "abcdefghijklmnopqrstuvw" ++ Txt.upper (Str.ofString "abcdefghijklmnopqrstuvw")).length = 46 := by decide +kernel
  unfold b_l_plains
  simp [endsA, l1, l2, l3, l4]
  rw [e]
  exact hq
/-- a plain symbol -/
def plC (c : Nat) : Prop := symC c ∧ c ≠ 92 ∧ c ≠ 34 ∧ c ≠ 120
instance (c : Nat) : Decidable (plC c) := by unfold plC symC; infer_instance
theorem plains_ok : ∀ c ∈ plainsS.cps.toList, plC c := by decide +kernel
theorem plains_len : plainsS.length = 89 := by decide +kernel
def c_l_plain : Ctr := fun ρ Q _ => ∃ b r, ρ = [.own true r] ∧ Bag (b + 2) r ∧ ∀ r' c, Bag b r' → plC c → Q (.dat (.str (sgn c))) [.own true r']
/-- l_plain, slots ['l_bag_here', 'l_signs']; lends ['l_bag_here']; gives dat -/
def b_l_plain : AS := sSeq (sAsg (aDef c_l_plains [] rNil) (agName 1))
  (sRet (aOp bIx (aFrz (oLst (aCons (aC (.str "a")) (aCons (aC (.str "'")) (aCons (aOp bIx (aVar 1) (aDef c_g_draw [] (rIo 0 (rDat (aCall bLen (aCons (aVar 1) (aNil))) (rNil))))) (aNil)))))) (aDef c_g_draw [] (rIo 0 (rDat (aC (.int 3)) (rNil))))))
theorem p_l_plain : Sat 1 2 b_l_plain c_l_plain := by
  intro ρ Q Z hl h
  obtain ⟨b, r, rfl, hr, hq⟩ := h
  unfold b_l_plain
  simp [endsA]
  refine ⟨rfl, ?_⟩
  simp [plains_len]
  refine ⟨b + 1, r, 89, rfl, hr, cdiv_lit (by omega), fun r1 k hr1 h0 h1 => ?_⟩
  simp
  have hl : plainsS.cps.toList.length = 89 := plains_len
  obtain ⟨c, hc, ec⟩ := atI_ex (xs := plainsS.cps.toList) h0 (by rw [hl]; exact h1)
  refine ⟨by rw [plains_len]; omega, c, ec, ?_⟩
  refine ⟨b, r1, 3, rfl, hr1, cdiv_lit (by omega), fun r2 j hr2 g0 g1 => ?_⟩
  simp
  have o97 : Str.ofString "a" = sgn 97 := by decide +kernel
  have o39 : Str.ofString "'" = sgn 39 := by decide +kernel
  rcases (show j = 0 ∨ j = 1 ∨ j = 2 by omega) with rfl | rfl | rfl
  · simp [o97]
    exact hq _ 97 hr2 (by decide)
  · simp [o39]
    exact hq _ 39 hr2 (by decide)
  · simp
    exact hq _ c hr2 (plains_ok c hc)
/-! ### the greatest history is a history of few blocks -/
structure BSm (bs : Bx) : Prop extends BInv bs where
  sm : ∀ b ∈ bs, smI b.2.2
theorem le_lenB : ∀ {bs : Bx} {b : Nat × Nat × Int}, BInv bs → b ∈ bs → b.2.2 ≤ lenB bs ∧ 0 ≤ lenB bs
  | [], _, _, h => by cases h
  | q :: bs, b, hi, h => by
    have tl : BInv bs := ⟨fun x hx => hi.sym x (by simp [hx]), fun x hx => hi.lev x (by simp [hx]), fun x hx => hi.pos x (by simp [hx])⟩
    have one : ∀ q : Nat × Nat × Int, 1 ≤ q.2.2 → q.2.2 ≤ q.2.2 * wid q.1 q.2.1 := fun q hq => by
      have := Int.mul_le_mul_of_nonneg_left (wid_pos (c := q.1) (k := q.2.1)) (show 0 ≤ q.2.2 by omega)
      omega
    have nn : 0 ≤ lenB bs := by
      clear h
      induction bs with
      | nil => simp [lenB]
      | cons a r ih =>
        have h1 := tl.pos a (by simp)
        have h2 := one a h1
        have h3 := ih ⟨fun x hx => hi.sym x (by rcases List.mem_cons.mp hx with rfl | hx <;> simp [*]), fun x hx => hi.lev x (by rcases List.mem_cons.mp hx with rfl | hx <;> simp [*]), fun x hx => hi.pos x (by rcases List.mem_cons.mp hx with rfl | hx <;> simp [*])⟩ ⟨fun x hx => tl.sym x (by simp [hx]), fun x hx => tl.lev x (by simp [hx]), fun x hx => tl.pos x (by simp [hx])⟩
        simp [lenB] at h3 ⊢
        omega
    have hq := hi.pos q (by simp)
    have h2 := one q hq
    have e : lenB (q :: bs) = q.2.2 * wid q.1 q.2.1 + lenB bs := by simp [lenB]
    rcases List.mem_cons.mp h with rfl | h
    · exact ⟨by omega, by omega⟩
    · have := (le_lenB tl h).1
      exact ⟨by omega, by omega⟩
theorem BInv.bsm {bs : Bx} (h : BInv bs) (hs : smI (lenB bs)) : BSm bs := ⟨h, fun b hb => by
  have := le_lenB h hb
  have := h.pos b hb
  exact Nat.lt_of_le_of_lt (by omega) hs⟩
theorem HistOk.bsm {bs : Bx} (h : HistOk bs) : BSm bs := ⟨⟨h.sym, h.lev, h.pos⟩, h.sm⟩
theorem BSm.tail {b : Nat × Nat × Int} {bs : Bx} (h : BSm (b :: bs)) : BSm bs := ⟨⟨fun x hx => h.sym x (by simp [hx]), fun x hx => h.lev x (by simp [hx]), fun x hx => h.pos x (by simp [hx])⟩, fun x hx => h.sm x (by simp [hx])⟩
/-! ### histories as lists of characters -/
abbrev Ch := List (Nat × Nat)
def strC (cs : Ch) : List Nat := cs.flatMap fun p => escC p.2 p.1
def descC : Nat → Ch → Prop
  | _, [] => True
  | e, p :: r => p.2 ≤ e ∧ descC p.2 r
/-- the characters cs stand for l, their levels do not rise and are at most e -/
def HisC (l : List Nat) (e : Nat) (cs : Ch) : Prop := strC cs = l ∧ descC e cs
theorem escC_mem {k c : Nat} : c ∈ escC k c := by
  unfold escC
  split
  · rename_i h
    subst h
    have : 0 < 2 ^ k := Nat.pow_pos (by decide)
    exact List.mem_replicate.mpr ⟨by omega, rfl⟩
  · split
    · rename_i h
      subst h
      simp
    · simp
theorem strC_mem {cs : Ch} {p : Nat × Nat} (h : p ∈ cs) : p.1 ∈ strC cs := List.mem_flatMap.mpr ⟨p, h, escC_mem⟩
theorem strC_app {a b : Ch} : strC (a ++ b) = strC a ++ strC b := by simp [strC]
theorem strC_cons {p : Nat × Nat} {r : Ch} : strC (p :: r) = escC p.2 p.1 ++ strC r := by simp [strC]
theorem strC_len {cs : Ch} : cs.length ≤ (strC cs).length := by
  induction cs with
  | nil => simp
  | cons p r ih =>
    have := (escC_len (k := p.2) (c := p.1)).1
    rw [strC_cons, List.length_append, List.length_cons]
    omega
theorem escC_pre {k x y : Nat} {a b : List Nat} (h : escC k x ++ a = escC k y ++ b) : x = y ∧ a = b := by
  have h1 : 1 ≤ 2 ^ k := pow_pos2 k
  obtain ⟨n, hn⟩ : ∃ n, 2 ^ k = n + 1 := ⟨2 ^ k - 1, by omega⟩
  have rep : ∀ (i : Nat) (c d : Nat) (u v : List Nat), List.replicate i 92 ++ c :: u = List.replicate i 92 ++ d :: v → c = d ∧ u = v := fun i c d u v e => by
    have := List.append_cancel_left e
    exact ⟨(List.cons.inj this).1, (List.cons.inj this).2⟩
  have e92 : ∀ z : List Nat, List.replicate (2 ^ k) 92 ++ z = List.replicate n 92 ++ 92 :: z := fun z => by
    rw [hn, List.replicate_succ', List.append_assoc]; rfl
  have e34 : ∀ z : List Nat, (List.replicate (2 ^ k - 1) 92 ++ [34]) ++ z = List.replicate n 92 ++ 34 :: z := fun z => by
    rw [show 2 ^ k - 1 = n by omega, List.append_assoc]; rfl
  have ne : ∀ (c d : Nat) (u v : List Nat), c ≠ 92 → c ≠ 34 → (d = 92 ∨ d = 34) → ¬ (c :: u = List.replicate n 92 ++ d :: v) := fun c d u v h1 h2 h3 e => by
    cases n with
    | zero =>
      have := (List.cons.inj e).1
      rcases h3 with h | h <;> omega
    | succ n =>
      rw [List.replicate_succ, List.cons_append] at e
      exact h1 (List.cons.inj e).1
  unfold escC at h
  by_cases x1 : x = 92
  · rw [if_pos x1, e92] at h
    by_cases y1 : y = 92
    · rw [if_pos y1, e92] at h
      have := rep _ _ _ _ _ h
      exact ⟨by omega, this.2⟩
    · rw [if_neg y1] at h
      by_cases y2 : y = 34
      · rw [if_pos y2, e34] at h
        have := rep _ _ _ _ _ h
        omega
      · rw [if_neg y2] at h
        exact absurd h.symm (ne _ _ _ _ y1 y2 (.inl rfl))
  · rw [if_neg x1] at h
    by_cases x2 : x = 34
    · rw [if_pos x2, e34] at h
      by_cases y1 : y = 92
      · rw [if_pos y1, e92] at h
        have := rep _ _ _ _ _ h
        omega
      · rw [if_neg y1] at h
        by_cases y2 : y = 34
        · rw [if_pos y2, e34] at h
          have := rep _ _ _ _ _ h
          exact ⟨by omega, this.2⟩
        · rw [if_neg y2] at h
          exact absurd h.symm (ne _ _ _ _ y1 y2 (.inr rfl))
    · rw [if_neg x2] at h
      by_cases y1 : y = 92
      · rw [if_pos y1, e92] at h
        exact absurd h (ne _ _ _ _ x1 x2 (.inl rfl))
      · rw [if_neg y1] at h
        by_cases y2 : y = 34
        · rw [if_pos y2, e34] at h
          exact absurd h (ne _ _ _ _ x1 x2 (.inr rfl))
        · rw [if_neg y2] at h
          exact ⟨(List.cons.inj h).1, (List.cons.inj h).2⟩
/-- the symbol of a character of level k with which l begins -/
def cnd (l : List Nat) (k : Nat) : Option Nat := l.find? fun s => (escC k s).isPrefixOf l
theorem cnd_some {l : List Nat} {k s : Nat} (h : cnd l k = some s) : ∃ r, l = escC k s ++ r := by
  have := List.find?_some h
  obtain ⟨r, hr⟩ := List.isPrefixOf_iff_prefix.mp this
  exact ⟨r, hr.symm⟩
theorem cnd_of {k s : Nat} {r : List Nat} : cnd (escC k s ++ r) k = some s := by
  cases e : cnd (escC k s ++ r) k with
  | none =>
    have := List.find?_eq_none.mp e s (List.mem_append_left _ escC_mem)
    simp at this
  | some t =>
    obtain ⟨q, hq⟩ := cnd_some e
    rw [(escC_pre hq).1]
def compF : Nat → List Nat → Nat → List Ch
  | _, [], _ => [[]]
  | 0, _ :: _, _ => []
  | n + 1, c :: r, e => (List.range (e + 1)).flatMap fun k => match cnd (c :: r) k with
    | none => []
    | some s => (compF n ((c :: r).drop (escC k s).length) k).map ((s, k) :: ·)
theorem drop_lt {c k s : Nat} {r : List Nat} : ((c :: r).drop (escC k s).length).length ≤ r.length := by
  have := (escC_len (k := k) (c := s)).1
  rw [List.length_drop, List.length_cons]
  omega
theorem compF_fuel : ∀ {n m : Nat} {l : List Nat} {e : Nat}, l.length ≤ n → l.length ≤ m → compF n l e = compF m l e
  | n, m, [], e, _, _ => by cases n <;> cases m <;> rfl
  | 0, _, c :: r, _, h, _ => by simp at h
  | _, 0, c :: r, _, _, h => by simp at h
  | n + 1, m + 1, c :: r, e, h1, h2 => by
    unfold compF
    simp only [List.length_cons] at h1 h2
    congr 1
    funext k
    cases cnd (c :: r) k with
    | none => rfl
    | some s =>
      have := drop_lt (c := c) (k := k) (s := s) (r := r)
      simp only
      rw [compF_fuel (n := n) (m := m) (by omega) (by omega)]
/-- all histories of l as lists of characters -/
def comp (l : List Nat) (e : Nat) : List Ch := compF l.length l e
theorem comp_nil {e : Nat} : comp [] e = [[]] := rfl
theorem comp_cons {c : Nat} {r : List Nat} {e : Nat} : comp (c :: r) e = (List.range (e + 1)).flatMap fun k => match cnd (c :: r) k with
    | none => []
    | some s => (comp ((c :: r).drop (escC k s).length) k).map ((s, k) :: ·) := by
  unfold comp
  rw [List.length_cons]
  conv => lhs; unfold compF
  congr 1
  funext k
  cases cnd (c :: r) k with
  | none => rfl
  | some s =>
    simp only
    rw [compF_fuel drop_lt (Nat.le_refl _)]
theorem mem_comp : ∀ {n : Nat} {l : List Nat} {e : Nat} {cs : Ch}, l.length ≤ n → (cs ∈ comp l e ↔ HisC l e cs)
  | n, [], e, cs, _ => by
    rw [comp_nil]
    constructor
    · intro h
      rw [List.mem_singleton.mp h]
      exact ⟨rfl, trivial⟩
    · rintro ⟨h, _⟩
      have := strC_len (cs := cs)
      rw [h] at this
      rw [List.length_eq_zero_iff.mp (Nat.le_zero.mp this)]
      exact List.mem_singleton.mpr rfl
  | 0, c :: r, _, _, h => by simp at h
  | n + 1, c :: r, e, cs, h => by
    simp only [List.length_cons] at h
    rw [comp_cons, List.mem_flatMap]
    constructor
    · rintro ⟨k, hk, hm⟩
      rw [List.mem_range] at hk
      cases q : cnd (c :: r) k with
      | none => rw [q] at hm; simp at hm
      | some s =>
        rw [q] at hm
        simp only at hm
        obtain ⟨cs', hc, rfl⟩ := List.mem_map.mp hm
        obtain ⟨h1, h2⟩ := (mem_comp (n := n) (Nat.le_trans drop_lt (by omega))).mp hc
        obtain ⟨t, ht⟩ := cnd_some q
        refine ⟨?_, by omega, h2⟩
        rw [strC_cons, h1, ht, List.drop_left]
    · rintro ⟨h1, h2⟩
      cases cs with
      | nil => simp [strC] at h1
      | cons p cs =>
        obtain ⟨s, k⟩ := p
        rw [strC_cons] at h1
        refine ⟨k, List.mem_range.mpr (by have := h2.1; omega), ?_⟩
        have q : cnd (c :: r) k = some s := by rw [← h1]; exact cnd_of
        rw [q]
        simp only
        refine List.mem_map.mpr ⟨cs, (mem_comp (n := n) (Nat.le_trans drop_lt (by omega))).mpr ⟨?_, h2.2⟩, rfl⟩
        rw [← h1, List.drop_left]
/-- bound of their number -/
def cntC : Nat → Nat → Nat
  | 0, _ => 1
  | n + 1, e => ((List.range (e + 1)).map (cntC n)).sum
theorem sum_le {f g : Nat → Nat} : ∀ {xs : List Nat}, (∀ x ∈ xs, f x ≤ g x) → (xs.map f).sum ≤ (xs.map g).sum
  | [], _ => Nat.le_refl _
  | x :: xs, h => by
    have h1 := h x (by simp)
    have h2 := sum_le (xs := xs) fun y hy => h y (by simp [hy])
    simp only [List.map_cons, List.sum_cons]
    omega
theorem cntC_pos : ∀ {n e : Nat}, 1 ≤ cntC n e
  | 0, _ => Nat.le_refl _
  | n + 1, e => by
    unfold cntC
    rw [List.range_succ, List.map_append, List.sum_append]
    have := cntC_pos (n := n) (e := e)
    simp
    omega
theorem comp_len : ∀ {n : Nat} {l : List Nat} {e : Nat}, l.length ≤ n → (comp l e).length ≤ cntC n e
  | n, [], e, _ => by rw [comp_nil]; exact cntC_pos
  | 0, c :: r, _, h => by simp at h
  | n + 1, c :: r, e, h => by
    simp only [List.length_cons] at h
    rw [comp_cons, List.length_flatMap]
    conv => rhs; unfold cntC
    refine sum_le fun k _ => ?_
    cases cnd (c :: r) k with
    | none => simp
    | some s =>
      simp only [List.length_map]
      exact comp_len (Nat.le_trans drop_lt (by omega))
theorem comp_len12 {l : List Nat} {e : Nat} (h : l.length ≤ 12) (he : e ≤ 3) : (comp l e).length ≤ 455 := by
  refine Nat.le_trans (comp_len h) ?_
  have all : ∀ e : Fin 4, cntC 12 e.1 ≤ 455 := by decide +kernel
  exact all ⟨e, by omega⟩
/-! ### the search -/
theorem flatMap_nil {α β : Type} {f : α → List β} : ∀ {xs : List α}, (∀ x ∈ xs, f x = []) → xs.flatMap f = []
  | [], _ => rfl
  | x :: xs, h => by rw [List.flatMap_cons, h x (by simp), flatMap_nil fun y hy => h y (by simp [hy])]; rfl
theorem flatMap_one {β : Type} {f : Nat → List β} {s : Nat} : ∀ {xs : List Nat}, xs.Nodup → s ∈ xs → (∀ x ∈ xs, x ≠ s → f x = []) → xs.flatMap f = f s
  | [], _, h, _ => by cases h
  | x :: xs, nd, h, hf => by
    have nd2 := List.nodup_cons.mp nd
    rw [List.flatMap_cons]
    by_cases e : x = s
    · subst e
      rw [flatMap_nil fun y hy => hf y (by simp [hy]) fun e => nd2.1 (by rw [← e]; exact hy), List.append_nil]
    · rw [hf x (by simp) e, flatMap_one nd2.2 ((List.mem_cons.mp h).resolve_left fun z => e z.symm) fun y hy => hf y (by simp [hy])]
      rfl
theorem perm_add {α β : Type} {f g : α → List β} : ∀ {xs : List α}, (xs.flatMap fun x => f x ++ g x).Perm (xs.flatMap f ++ xs.flatMap g)
  | [] => List.Perm.refl _
  | x :: xs => by
    rw [List.flatMap_cons, List.flatMap_cons, List.flatMap_cons]
    have h := (perm_add (f := f) (g := g) (xs := xs)).append_left (f x ++ g x)
    refine h.trans ?_
    rw [List.append_assoc, List.append_assoc]
    refine List.Perm.append_left _ ?_
    rw [← List.append_assoc, ← List.append_assoc]
    exact List.Perm.append_right _ List.perm_append_comm
theorem perm_swap {α β γ : Type} {f : α → β → List γ} {ys : List β} : ∀ {xs : List α}, (xs.flatMap fun x => ys.flatMap fun y => f x y).Perm (ys.flatMap fun y => xs.flatMap fun x => f x y)
  | [] => by
    have e := flatMap_nil (xs := ys) (f := fun y => ([] : List α).flatMap fun x => f x y) (fun _ _ => rfl)
    rw [e]
    exact List.Perm.refl _
  | x :: xs => by
    rw [List.flatMap_cons]
    refine (List.Perm.append_left _ perm_swap).trans ?_
    exact (perm_add (f := fun y => f x y) (g := fun y => xs.flatMap fun x => f x y)).symm
/-- a row of the search: the characters so far, their positions, the bound -/
abbrev Rw := Ch × Nat × Nat
def pushC (l : List Nat) (w : Rw) (s k : Nat) : List Rw := if (escC k s).isPrefixOf (l.drop w.2.1) then [(w.1 ++ [(s, k)], w.2.1 + (escC k s).length, k)] else []
def restC (l : List Nat) (w : Rw) : List Ch := (comp (l.drop w.2.1) w.2.2).map (w.1 ++ ·)
theorem push_one {β : Type} {l : List Nat} {w : Rw} {ys : List Nat} {k : Nat} {Φ : Rw → List β} (nd : ys.Nodup) (hy : ∀ c ∈ l, c ∈ ys) : (ys.flatMap fun s => (pushC l w s k).flatMap Φ) = match cnd (l.drop w.2.1) k with
    | none => []
    | some s => Φ (w.1 ++ [(s, k)], w.2.1 + (escC k s).length, k) := by
  have sub : ∀ s, (escC k s).isPrefixOf (l.drop w.2.1) = true → s ∈ ys := fun s hs => by
    obtain ⟨t, ht⟩ := List.isPrefixOf_iff_prefix.mp hs
    have : s ∈ l.drop w.2.1 := by rw [← ht]; exact List.mem_append_left _ escC_mem
    exact hy s (List.mem_of_mem_drop this)
  cases q : cnd (l.drop w.2.1) k with
  | none =>
    refine flatMap_nil fun s _ => ?_
    unfold pushC
    rw [if_neg]
    · rfl
    · intro hs
      obtain ⟨t, ht⟩ := List.isPrefixOf_iff_prefix.mp hs
      rw [← ht, cnd_of] at q
      cases q
  | some s =>
    obtain ⟨t, ht⟩ := cnd_some q
    have hs : (escC k s).isPrefixOf (l.drop w.2.1) = true := List.isPrefixOf_iff_prefix.mpr ⟨t, ht.symm⟩
    rw [flatMap_one (s := s) nd (sub s hs) fun x hx hne => ?_]
    · unfold pushC
      rw [if_pos hs]
      simp only [List.flatMap_cons, List.flatMap_nil, List.append_nil]
    · unfold pushC
      rw [if_neg]
      · rfl
      · intro hx
        obtain ⟨t2, ht2⟩ := List.isPrefixOf_iff_prefix.mp hx
        rw [ht] at ht2
        exact hne (escC_pre ht2).1
theorem push_flat {β : Type} {l : List Nat} {w : Rw} {ys : List Nat} {Φ : Rw → List β} : ((ys.flatMap fun s => (List.range (w.2.2 + 1)).flatMap (pushC l w s)).flatMap Φ).Perm ((List.range (w.2.2 + 1)).flatMap fun k => ys.flatMap fun s => (pushC l w s k).flatMap Φ) := by
  rw [List.flatMap_assoc]
  have e1 : (ys.flatMap fun s => ((List.range (w.2.2 + 1)).flatMap (pushC l w s)).flatMap Φ) = ys.flatMap fun s => (List.range (w.2.2 + 1)).flatMap fun k => (pushC l w s k).flatMap Φ := by
    congr 1
    funext s
    rw [List.flatMap_assoc]
  rw [e1]
  exact perm_swap
theorem push_perm {l : List Nat} {w : Rw} {ys : List Nat} (nd : ys.Nodup) (hy : ∀ c ∈ l, c ∈ ys) (h : w.2.1 < l.length) : ((ys.flatMap fun s => (List.range (w.2.2 + 1)).flatMap (pushC l w s)).flatMap (restC l)).Perm (restC l w) := by
  refine push_flat.trans (List.Perm.of_eq ?_)
  obtain ⟨cs, a, b⟩ := w
  simp only at h ⊢
  have hd : ∃ c r, l.drop a = c :: r := by
    cases e : l.drop a with
    | nil => have := congrArg List.length e; simp at this; omega
    | cons c r => exact ⟨c, r, rfl⟩
  obtain ⟨c, r, hd⟩ := hd
  have e2 : restC l (cs, a, b) = (comp (c :: r) b).map (cs ++ ·) := by unfold restC; simp only [hd]
  rw [e2, comp_cons, List.map_flatMap]
  congr 1
  funext k
  rw [push_one nd hy]
  simp only [hd]
  cases q : cnd (c :: r) k with
  | none => simp
  | some s =>
    simp only [restC, List.map_map]
    rw [← List.drop_drop, hd]
    congr 1
    funext z
    simp
/-- how many rows a search makes -/
def gC : Nat → Nat → Nat
  | 0, _ => 1
  | n + 1, e => 1 + ((List.range (e + 1)).map (gC n)).sum
theorem gC_pos {n e : Nat} : 1 ≤ gC n e := by cases n <;> unfold gC <;> omega
theorem gC_mono : ∀ {n e : Nat}, gC n e ≤ gC (n + 1) e := fun {n e} => by
  conv => rhs; unfold gC
  rw [List.range_succ, List.map_append, List.sum_append]
  simp
  omega
theorem gC_monoL {n e : Nat} : ∀ {d : Nat}, gC n e ≤ gC (n + d) e
  | 0 => Nat.le_refl _
  | d + 1 => Nat.le_trans gC_monoL (gC_mono (n := n + d))
theorem gC_12 {n e : Nat} (h : n ≤ 12) (he : e ≤ 3) : gC n e ≤ 1820 := by
  obtain ⟨d, hd⟩ : ∃ d, n + d = 12 := ⟨12 - n, by omega⟩
  have := gC_monoL (n := n) (e := e) (d := d)
  rw [hd] at this
  have all : ∀ e : Fin 4, gC 12 e.1 ≤ 1820 := by decide +kernel
  refine Nat.le_trans this ?_
  exact all ⟨e, by omega⟩
def meaG (l : List Nat) (ws : List Rw) : Nat := (ws.map fun w => gC (l.length - w.2.1) w.2.2).sum
theorem meaG_app {l : List Nat} {a b : List Rw} : meaG l (a ++ b) = meaG l a + meaG l b := by simp [meaG]
theorem meaG_len {l : List Nat} : ∀ {a : List Rw}, a.length ≤ meaG l a
  | [] => by simp [meaG]
  | w :: a => by
    have h1 := gC_pos (n := l.length - w.2.1) (e := w.2.2)
    have h2 := meaG_len (l := l) (a := a)
    simp only [meaG, List.map_cons, List.sum_cons, List.length_cons] at h2 ⊢
    omega
def gL (l : List Nat) (w : Rw) : List Unit := List.replicate (gC (l.length - w.2.1) w.2.2) ()
theorem meaG_gL {l : List Nat} {ws : List Rw} : meaG l ws = (ws.flatMap (gL l)).length := by
  rw [List.length_flatMap]
  simp [meaG, gL]
theorem push_mea {l : List Nat} {w : Rw} {ys : List Nat} (nd : ys.Nodup) (hy : ∀ c ∈ l, c ∈ ys) (h : w.2.1 < l.length) : meaG l (ys.flatMap fun s => (List.range (w.2.2 + 1)).flatMap (pushC l w s)) < gC (l.length - w.2.1) w.2.2 := by
  rw [meaG_gL, push_flat.length_eq, List.length_flatMap]
  obtain ⟨n, hn⟩ : ∃ n, l.length - w.2.1 = n + 1 := ⟨l.length - w.2.1 - 1, by omega⟩
  rw [hn]
  conv => rhs; unfold gC
  have : ((List.range (w.2.2 + 1)).map fun k => (ys.flatMap fun s => (pushC l w s k).flatMap (gL l)).length).sum ≤ ((List.range (w.2.2 + 1)).map (gC n)).sum := by
    refine sum_le fun k _ => ?_
    rw [push_one nd hy]
    cases q : cnd (l.drop w.2.1) k with
    | none => simp
    | some s =>
      have h1 := (escC_len (k := k) (c := s)).1
      simp only [gL, List.length_replicate]
      obtain ⟨d, hd⟩ : ∃ d, n = (l.length - (w.2.1 + (escC k s).length)) + d := ⟨n - (l.length - (w.2.1 + (escC k s).length)), by omega⟩
      rw [hd]
      exact gC_monoL
  omega
theorem items_cases {d : D} {xs : List D} (h : d.items = some xs) : d = .lst xs ∨ d = .tup xs := by
  cases d with
  | lst ys => cases h; exact .inl rfl
  | tup ys => cases h; exact .inr rfl
  | _ => cases h
/-! ### lists and tuples exchanged -/
def c_l_either : Ctr := fun ρ Q _ => ∃ b r v xs, ρ = [.own true r, .dat v] ∧ v.items = some xs ∧ xs.length ≤ 100000 ∧ Bag (b + 1) r ∧ ∀ r' v', Bag b r' → v'.items = some xs → Q (.dat v') [.own true r', .dat v]
/-- l_either, slots ['l_bag_here', 'l_items']; lends ['l_bag_here']; gives dat -/
def b_l_either : AS := sRet (aOp bIx (aFrz (oLst (aCons (aFrz (oListA (aCons (aVar 1) (aNil)))) (aCons (aCall bTuple (aCons (aVar 1) (aNil))) (aNil))))) (aDef c_g_draw [] (rIo 0 (rDat (aC (.int 2)) (rNil)))))
theorem p_l_either : Sat 2 2 b_l_either c_l_either := by
  intro ρ Q Z hl h
  obtain ⟨b, r, v, xs, rfl, hv, hx, hr, hq⟩ := h
  unfold b_l_either
  have two : ∀ k : Int, 0 ≤ k → k < 2 → ∃ v', atI [D.lst xs, D.tup xs] k = some v' ∧ v'.items = some xs := fun k k0 k1 => by
    rcases (show k = 0 ∨ k = 1 by omega) with rfl | rfl
    · exact ⟨.lst xs, by simp, rfl⟩
    · exact ⟨.tup xs, by simp, rfl⟩
  rcases items_cases hv with rfl | rfl
  · simp [endsA]
    refine ⟨b, r, 2, rfl, hr, cdiv_lit (by omega), fun r1 k hr1 k0 k1 => ?_⟩
    obtain ⟨v', e1, e2⟩ := two k k0 k1
    simp
    exact ⟨v', e1, hq r1 v' hr1 e2⟩
  · simp [endsA]
    refine ⟨b, r, 2, rfl, hr, cdiv_lit (by omega), fun r1 k hr1 k0 k1 => ?_⟩
    obtain ⟨v', e1, e2⟩ := two k k0 k1
    simp
    exact ⟨v', e1, hq r1 v' hr1 e2⟩
def c_o_dressed : Ctr := fun ρ Q _ => ∃ b r xs, ρ = [.own true r, .dat (.lst xs)] ∧ (∀ x ∈ xs, ∃ zs, x.items = some zs ∧ zs.length ≤ 1000) ∧ xs.length ≤ 10000 ∧ Bag (b + xs.length + 1) r ∧ ∀ r' v' ys, Bag b r' → v'.items = some ys → ys.map D.items = xs.map D.items → Q (.dat v') [.own true r', .dat (.lst xs)]
/-- o_dressed, slots ['l_bag_here', 'l_blocks_here', 'l_one']; lends ['l_bag_here']; gives dat -/
def b_o_dressed : AS := sRet (aDef c_l_either [] (rIo 0 (rDat (aFrz (oLc (iAny (aVar 1)) (agName 2) (aYes) (aDef c_l_either [] (rIo 0 (rDat (aVar 2) (rNil)))) [2])) (rNil))))
theorem p_o_dressed : Sat 2 3 b_o_dressed c_o_dressed := by
  intro ρ Q Z hl h
  obtain ⟨b, r, xs, rfl, hx, hlen, hr, hq⟩ := h
  unfold b_o_dressed
  simp [endsA]
  refine comp_of (fun ds acc ρ' => ∃ r' dn, ρ' = [.own true r', .dat (.lst xs), .un] ∧ Bag (b + ds.length + 1) r' ∧ xs = dn ++ ds ∧ acc.map D.items = dn.map D.items) ?_ ?_ _ [] _ ⟨r, [], rfl, hr, rfl, rfl⟩
  · rintro acc ρ ⟨r', dn, rfl, hb, e, ea⟩
    rw [List.append_nil] at e
    rw [← e] at ea
    have al : acc.length = xs.length := by have := congrArg List.length ea; simpa using this
    simp
    refine ⟨b, r', .lst acc, acc, rfl, rfl, by omega, by simpa using hb, fun r2 v' hr2 hv => ?_⟩
    simp
    exact hq r2 v' acc hr2 hv ea
  · rintro d ds acc ρ X ⟨r', dn, rfl, hb, e, ea⟩ hX
    obtain ⟨zs, h1, h2⟩ := hx d (by rw [e]; simp)
    have al : acc.length = dn.length := by have := congrArg List.length ea; simpa using this
    have ll := congrArg List.length e
    simp at ll
    simp only [List.length_cons] at hb
    simp
    refine ⟨b + ds.length + 1, r', d, zs, rfl, h1, by omega, hb.mono (by omega), fun r2 v' hr2 hv => ?_⟩
    simp
    exact ⟨by omega, hX _ _ ⟨r2, dn ++ [d], rfl, hr2, by rw [e]; simp, by simp [ea, hv, h1]⟩⟩
theorem blks_items {bs : Bx} (h : HistOk bs) {x : D} {ys : List D} (hx : x.items = some ys) (e : ys.map D.items = (bs.map blkD).map D.items) : IsHx x bs := by
  have hn : ∀ {ys : List D} {bs : Bx}, ys.map D.items = (bs.map blkD).map D.items → ys.map D.norm = (bs.map blkD).map D.norm := by
    intro ys bs
    induction ys generalizing bs with
    | nil => intro e; cases bs with
      | nil => rfl
      | cons t ts => cases e
    | cons y ys ih => intro e; cases bs with
      | nil => cases e
      | cons t ts =>
        simp only [List.map_cons, List.cons.injEq] at e ⊢
        refine ⟨?_, ih e.2⟩
        have h1 : y.items = some [.str (sgn t.1), .int (t.2.1 : Int), .int t.2.2] := e.1
        rcases items_cases h1 with rfl | rfl
        · simp only [blkD, pieD, D.norm, D.normL]
        · simp only [blkD, pieD, D.norm, D.normL]
  refine ⟨?_, h⟩
  have := hn e
  rcases items_cases hx with rfl | rfl
  · simp only [D.norm, normL_map, this]
  · simp only [D.norm, normL_map, this]
theorem kAny_itm {QL : List D → List Sv → Prop} {v : D} {xs : List D} {ρ : List Sv} (h : v.items = some xs) : kAny QL v ρ = QL xs ρ := by
  rcases items_cases h with rfl | rfl <;> rfl
/-! ### all histories, by trying every character -/
def chsD (cs : Ch) : D := .lst ((cs.map fun p => (p.1, ((p.2 : Nat) : Int))).map runD)
def rowD (w : Rw) : D := .tup [chsD w.1, .int (w.2.1 : Nat), .int (w.2.2 : Nat)]
def c_a_all : Ctr := fun ρ Q _ => ∃ (l : List Nat) (e : Nat), ρ = [.dat (.str (strL l)), .dat (.int e)] ∧ (∀ c ∈ l, symC c) ∧ l.length ≤ 12 ∧ e ≤ 3 ∧ ∀ fs : List Ch, fs.Perm (comp l e) → Q (.own false (fs.map chsD)) [.dat (.str (strL l)), .dat (.int e)]
/-- a_all, slots ['l_string_here', 'l_escapes', 'l_rows', 'l_found', 'l_some', 'l_at', 'l_bound', 'l_symbol', 'l_level', 'l_form']; lends []; gives own -/
def b_a_all : AS := sSeq (sParM [2, 3] (aMO (oLst (aCons (aTup (aCons (aFrz (oLst (aNil))) (aCons (aC (.int 0)) (aCons (aVar 1) (aNil))))) (aNil))) (aMO (oLst (aNil)) (aMNil))))
  (sSeq (sWhile (tCmpV bNe (vVar 2) (vLst (vNil))) (sSeq (sAsg (aPop 2) (agTup (agCons (agName 4) (agCons (agName 5) (agCons (agName 6) (agNil))))))
  (sSeq (sIf (tCmpV bEq (vVar 5) (vCall bLen (vCons (vVar 0) (vNil)))) (sAppO 3 (aVar 4)) (sNx))
  (sFor (iAny (aIfE (tCmpV bLt (vVar 5) (vCall bLen (vCons (vVar 0) (vNil)))) (aSrtX (aVar 0)) (aFrz (oLst (aNil))))) (agName 7) (sFor (iRange1 (aCons (aOp bAddB (aVar 6) (aC (.int 1))) (aNil))) (agName 8) (sSeq (sAsg (aDef c_l_escaped [] (rDat (aVar 7) (rDat (aVar 8) (rNil)))) (agName 9))
  (sIf (tCmpE bEq (aSl (aVar 0) (aPart (aVar 5)) (aPart (aOp bAddB (aVar 5) (aCall bLen (aCons (aVar 9) (aNil)))))) (aVar 9)) (sAppO 2 (aTup (aCons (aOp bAddB (aVar 4) (aFrz (oLst (aCons (aTup (aCons (aVar 7) (aCons (aVar 8) (aNil)))) (aNil))))) (aCons (aOp bAddB (aVar 5) (aCall bLen (aCons (aVar 9) (aNil)))) (aCons (aVar 8) (aNil)))))) (sNx))))))))
  (sRetV 3))
theorem rangeD_consA {lo : Int} {n : Nat} : rangeD lo (n + 1) = .int lo :: rangeD (lo + 1) n := by
  unfold rangeD
  rw [List.range_succ_eq_map]
  simp [Function.comp_def]
  intro a _
  omega
theorem push_mem {l : List Nat} {w : Rw} {s k : Nat} {x : Rw} (h : x ∈ pushC l w s k) : x = (w.1 ++ [(s, k)], w.2.1 + (escC k s).length, k) ∧ (escC k s).isPrefixOf (l.drop w.2.1) = true := by
  unfold pushC at h
  split at h
  · rename_i hp
    exact ⟨List.mem_singleton.mp h, hp⟩
  · cases h
theorem signs_of {l : List Nat} {ys : List Str} (nd : ys.Nodup) (mem : ∀ z, z ∈ ys ↔ ∃ c, c ∈ (strL l).cps ∧ z = PySem.Froz.sing c) : ∃ us : List Nat, ys = us.map sgn ∧ us.Nodup ∧ (∀ c ∈ l, c ∈ us) ∧ ∀ c ∈ us, c ∈ l := by
  have el : ∀ c, c ∈ (strL l).cps ↔ c ∈ l := fun c => by simp [strL]
  have e1 : ys = (ys.map fun z => z.cps.getD 0 0).map sgn := by
    rw [List.map_map]
    conv => lhs; rw [← List.map_id ys]
    refine List.map_congr_left fun z hz => ?_
    obtain ⟨c, _, e⟩ := (mem z).mp hz
    rw [e]
    rfl
  refine ⟨ys.map fun z => z.cps.getD 0 0, e1, ?_, fun c hc => ?_, fun c hc => ?_⟩
  · refine List.Pairwise.of_map (S := fun x y => x ≠ y) sgn (fun a b h e => h (by rw [e])) (by rw [← e1]; exact nd)
  · exact List.mem_map.mpr ⟨sgn c, (mem _).mpr ⟨c, (el c).mpr hc, rfl⟩, rfl⟩
  · obtain ⟨z, hz, rfl⟩ := List.mem_map.mp hc
    obtain ⟨d, hd, e⟩ := (mem z).mp hz
    rw [e]
    exact (el d).mp hd
theorem strL_cut {l : List Nat} {a n : Nat} (h : a ≤ l.length) : cutS (strL l) (some (a : Int)) (some ((a : Int) + (n : Nat))) = strL ((l.drop a).take n) := by
  have e3 : (strL l).cps.toList = l := by simp [strL]
  unfold cutS
  rw [strL_len, e3]
  simp only [HT.sIx, if_neg (show ¬ (a : Int) < 0 by omega), if_neg (show ¬ (a : Int) + (n : Nat) < 0 by omega)]
  have e1 : min (a : Int).toNat l.length = a := by omega
  have e2 : ((a : Int) + (n : Nat)).toNat = a + n := by omega
  rw [e1, e2]
  have : (l.drop a).take (min (a + n) l.length - a) = (l.drop a).take n := by
    rcases Nat.le_total (a + n) l.length with z | z
    · rw [Nat.min_eq_left z]; congr 1; omega
    · rw [Nat.min_eq_right z, List.take_of_length_le (by simp), List.take_of_length_le (by simp; omega)]
  rw [this]
  rfl
theorem strL_eqv {a b : List Nat} : (strL a == strL b) = (a == b) := by
  rw [Bool.eq_iff_iff, beq_iff_eq, beq_iff_eq]
  simp [strL]
theorem pre_take {x y : List Nat} : (y.take x.length == x) = x.isPrefixOf y := by
  rw [Bool.eq_iff_iff, beq_iff_eq, List.isPrefixOf_iff_prefix, List.prefix_iff_eq_take]
  exact eq_comm
structure ChOk (cs : Ch) : Prop where
  sy : ∀ p ∈ cs, symC p.1
  lv : ∀ p ∈ cs, p.2 ≤ 200
theorem chsD_ok {cs : Ch} (h : ChOk cs) : (chsD cs).sok true = true ∧ (chsD cs).dep ≤ 2 := by
  refine ⟨?_, ?_⟩
  · simp only [chsD, D.sok]
    refine sok_runs (fun t ht => ?_) fun t ht => ?_
    · obtain ⟨p, hp, rfl⟩ := List.mem_map.mp ht
      exact h.sy p hp
    · obtain ⟨p, hp, rfl⟩ := List.mem_map.mp ht
      have := h.lv p hp
      exact smI_lit (by show ((p.2 : Nat) : Int).natAbs < 2 ^ 1000; have : (200 : Nat) < 2 ^ 1000 := by decide +kernel
                        omega)
  · have := dep_runs (ts := cs.map fun p => (p.1, ((p.2 : Nat) : Int)))
    simp only [chsD, D.dep]
    omega
theorem eqOk_rows {ws : List Rw} (h : ∀ w ∈ ws, ChOk w.1 ∧ w.2.1 ≤ 100000 ∧ w.2.2 ≤ 100000) : (D.lst (ws.map rowD)).eqOk := by
  have sm : ∀ n : Nat, n ≤ 100000 → smI (n : Int) := fun n hn => smI_lit (by show ((n : Nat) : Int).natAbs < 2 ^ 1000; have : (100000 : Nat) < 2 ^ 1000 := by decide +kernel
                                                                             omega)
  refine eqOk_of ?_ ?_
  · simp only [D.sok]
    rw [sokL_iff]
    intro d hd
    obtain ⟨w, hw, rfl⟩ := List.mem_map.mp hd
    obtain ⟨h1, h2, h3⟩ := h w hw
    have k2 := Nat.lt_trans (log2_lt (by decide) (sm _ h2)) (show 1900 < 1920 by omega)
    have k3 := Nat.lt_trans (log2_lt (by decide) (sm _ h3)) (show 1900 < 1920 by omega)
    simp only [rowD, D.sok, D.sokL, (chsD_ok h1).1, Bool.and_eq_true, decide_eq_true_eq, Bool.and_true, Bool.true_and]
    first | exact ⟨k2, k3⟩ | exact ⟨by simpa using k2, by simpa using k3⟩
  · simp only [D.dep]
    have : D.depL (ws.map rowD) ≤ 3 := by
      rw [depL_le]
      intro d hd
      obtain ⟨w, hw, rfl⟩ := List.mem_map.mp hd
      have := (chsD_ok (h w hw).1).2
      simp only [rowD, D.dep, D.depL]
      omega
    omega
structure AllI (l : List Nat) (e : Nat) (st : List Rw) (fd : List Ch) : Prop where
  pm : (fd ++ st.flatMap (restC l)).Perm (comp l e)
  at_ : ∀ w ∈ st, w.2.1 ≤ l.length
  b : ∀ w ∈ st, w.2.2 ≤ 3
  ok : ∀ w ∈ st, ChOk w.1
  ln : ∀ w ∈ st, w.1.length ≤ w.2.1
theorem p_a_all : Sat 2 10 b_a_all c_a_all := by
  intro ρ Q Z hl h
  obtain ⟨l, e, rfl, hsy, hlen, he, hq⟩ := h
  unfold b_a_all
  have hll : (strL l).length = l.length := strL_len
  simp [endsA]
  refine while_of (fun m ρ => ∃ st fd v4 v5 v6 v7 v8 v9, ρ = [.dat (.str (strL l)), .dat (.int (e : Nat)), .own false (st.map rowD), .own false (fd.map chsD), v4, v5, v6, v7, v8, v9] ∧ noV v4 ∧ noV v5 ∧ noV v6 ∧ noV v7 ∧ noV v8 ∧ noV v9 ∧ AllI l e st fd ∧ meaG l st ≤ 1820 ∧ m = meaG l st) (meaG l [([], 0, e)])
    ⟨[([], 0, e)], [], .un, .un, .un, .un, .un, .un, by simp [rowD, chsD], trivial, trivial, trivial, trivial, trivial, trivial, ⟨by simp [restC], by simp, by simp; omega, fun w hw => by rw [List.mem_singleton.mp hw]; exact ⟨by simp, by simp⟩, by simp⟩, ?_, rfl⟩ ?_
  · simp [meaG]
    exact gC_12 hlen he
  rintro m ρ X ⟨st, fd, v4, v5, v6, v7, v8, v9, rfl, n4, n5, n6, n7, n8, n9, ha, hw, rfl⟩ hX
  rcases List.eq_nil_or_concat st with rfl | ⟨us, w, hu⟩
  · simp
    exact hq fd (by simpa using ha.pm)
  · rw [List.concat_eq_append] at hu
    subst hu
    have hfd : fd.length ≤ 455 := by
      have h1 := ha.pm.length_eq
      have h2 := comp_len12 (l := l) (e := e) hlen he
      rw [List.length_append] at h1
      omega
    have hus : us.length ≤ 1820 := by
      have := meaG_len (l := l) (a := us ++ [w])
      simp at this
      omega
    have ok : (D.lst ((us ++ [w]).map rowD)).eqOk := eqOk_rows fun x hx => ⟨ha.ok x hx, by have := ha.at_ x hx; omega, by have := ha.b x hx; omega⟩
    simp only [List.map_append, List.map_cons, List.map_nil] at ok
    have wat := ha.at_ w (by simp)
    have wb := ha.b w (by simp)
    have wok := ha.ok w (by simp)
    have wln := ha.ln w (by simp)
    obtain ⟨cs, a, b⟩ := w
    simp only at wat wb wok wln
    have ok : (D.lst (List.map rowD us ++ [D.tup [chsD cs, D.int (a : Nat), D.int (b : Nat)]])).eqOk := ok
    simp [okV_of n4, okV_of n5, okV_of n6, okV_of n7, okV_of n8, okV_of n9, ok, rowD, hll]
    by_cases hfull : a = l.length
    · subst hfull
      simp
      refine ⟨by omega, by omega, by omega, ?_⟩
      rw [aLoop]
      refine hX (meaG l us) _ ?_ ⟨us, fd ++ [cs], .dat (chsD cs), .dat (.int (l.length : Nat)), .dat (.int (b : Nat)), v7, v8, v9, by simp, trivial, trivial, trivial, n7, n8, n9, ?_, ?_, rfl⟩
      · rw [meaG_app]; simp [meaG, gC]
      · refine ⟨?_, fun x hx => ha.at_ x (by simp [hx]), fun x hx => ha.b x (by simp [hx]), fun x hx => ha.ok x (by simp [hx]), fun x hx => ha.ln x (by simp [hx])⟩
        have h1 := ha.pm
        rw [List.flatMap_append] at h1
        have e1 : ([(cs, l.length, b)] : List Rw).flatMap (restC l) = [cs] := by simp [restC, comp_nil]
        rw [e1] at h1
        refine List.Perm.trans ?_ h1
        rw [List.append_assoc]
        exact List.Perm.append_left _ List.perm_append_comm
      · rw [meaG_app] at hw; omega
    · have hlt : a < l.length := by omega
      have hne : ¬ ((a : Int) = (l.length : Int)) := by omega
      have hltI : (a : Int) < (l.length : Int) := by omega
      simp [hne, hltI]
      refine ⟨by omega, ?_⟩
      rw [if_pos hlt]
      refine ⟨by omega, fun ys nd _ mem => ?_⟩
      obtain ⟨ss, rfl, nds, sub, sub2⟩ := signs_of nd mem
      have hss : ss.length ≤ 12 := by
        have : ∀ {xs ms : List Nat}, xs.Nodup → (∀ x ∈ xs, x ∈ ms) → xs.length ≤ ms.length := by
          intro xs
          induction xs with
          | nil => intro _ _ _; exact Nat.zero_le _
          | cons y xs ih =>
            intro ms hd hs
            have h1 := ih (ms := ms.erase y) (List.nodup_cons.mp hd).2 fun z hz => (List.mem_erase_of_ne (fun (e : z = y) => (List.nodup_cons.mp hd).1 (by rw [← e]; exact hz))).mpr (hs z (List.mem_cons_of_mem _ hz))
            have h2 := List.length_erase_of_mem (hs y (List.mem_cons_self ..))
            have h3 : 0 < ms.length := List.length_pos_iff.mpr (List.ne_nil_of_mem (hs y (List.mem_cons_self ..)))
            simp only [List.length_cons]
            omega
        have := this nds sub2
        omega
      refine loop_ofE (fun ds ρ => ∃ (dn rest : List Nat) (v7 v8 v9 : Sv), ss = dn ++ rest ∧ ds = rest.map (fun c => .str (sgn c)) ∧ ρ = [.dat (.str (strL l)), .dat (.int (e : Nat)), .own false ((us ++ dn.flatMap fun s => (List.range (b + 1)).flatMap (pushC l (cs, a, b) s)).map rowD), .own false (fd.map chsD), .dat (chsD cs), .dat (.int (a : Nat)), .dat (.int (b : Nat)), v7, v8, v9] ∧ noV v7 ∧ noV v8 ∧ noV v9) ?_ ?_ _ _ ⟨[], ss, v7, v8, v9, rfl, by simp [Function.comp_def], by simp, n7, n8, n9⟩
      · rintro ρ ⟨dn, rest, v7, v8, v9, e1, e2, rfl, n7, n8, n9⟩
        have : rest = [] := by cases rest with
          | nil => rfl
          | cons _ _ => cases e2
        subst this
        rw [List.append_nil] at e1
        subst e1
        have hm := push_mea (l := l) (w := (cs, a, b)) nds sub hlt
        have hp := push_perm (l := l) (w := (cs, a, b)) nds sub hlt
        have hw2 := hw
        rw [meaG_app] at hw2
        have e3 : meaG l [(cs, a, b)] = gC (l.length - a) b := by simp [meaG]
        simp only at hm hp
        refine hX (meaG l (us ++ ss.flatMap fun s => (List.range (b + 1)).flatMap (pushC l (cs, a, b) s))) _ ?_ ⟨us ++ ss.flatMap fun s => (List.range (b + 1)).flatMap (pushC l (cs, a, b) s), fd, .dat (chsD cs), .dat (.int (a : Nat)), .dat (.int (b : Nat)), v7, v8, v9, rfl, trivial, trivial, trivial, n7, n8, n9, ⟨?_, fun x hx => ?_, fun x hx => ?_, fun x hx => ?_, fun x hx => ?_⟩, ?_, rfl⟩
        · rw [meaG_app, meaG_app]; omega
        · have h1 := ha.pm
          rw [List.flatMap_append] at h1 ⊢
          refine List.Perm.trans (List.Perm.append_left _ (List.Perm.append_left _ ?_)) h1
          simpa using hp
        · rcases List.mem_append.mp hx with hx | hx
          · exact ha.at_ x (by simp [hx])
          · obtain ⟨s, hs, hx⟩ := List.mem_flatMap.mp hx
            obtain ⟨k, hk, hx⟩ := List.mem_flatMap.mp hx
            obtain ⟨rfl, hpre⟩ := push_mem hx
            obtain ⟨r, hr⟩ := List.isPrefixOf_iff_prefix.mp hpre
            have := congrArg List.length hr
            simp at this
            simp
            omega
        · rcases List.mem_append.mp hx with hx | hx
          · exact ha.b x (by simp [hx])
          · obtain ⟨s, hs, hx⟩ := List.mem_flatMap.mp hx
            obtain ⟨k, hk, hx⟩ := List.mem_flatMap.mp hx
            obtain ⟨rfl, hpre⟩ := push_mem hx
            rw [List.mem_range] at hk
            simp only
            omega
        · rcases List.mem_append.mp hx with hx | hx
          · exact ha.ok x (by simp [hx])
          · obtain ⟨s, hs, hx⟩ := List.mem_flatMap.mp hx
            obtain ⟨k, hk, hx⟩ := List.mem_flatMap.mp hx
            obtain ⟨rfl, hpre⟩ := push_mem hx
            rw [List.mem_range] at hk
            refine ⟨fun p hp => ?_, fun p hp => ?_⟩
            · rcases List.mem_append.mp hp with hp | hp
              · exact wok.sy p hp
              · rw [List.mem_singleton.mp hp]; exact hsy s (sub2 s hs)
            · rcases List.mem_append.mp hp with hp | hp
              · exact wok.lv p hp
              · rw [List.mem_singleton.mp hp]; simp only; omega
        · rcases List.mem_append.mp hx with hx | hx
          · exact ha.ln x (by simp [hx])
          · obtain ⟨s, hs, hx⟩ := List.mem_flatMap.mp hx
            obtain ⟨k, hk, hx⟩ := List.mem_flatMap.mp hx
            obtain ⟨rfl, hpre⟩ := push_mem hx
            have := (escC_len (k := k) (c := s)).1
            simp
            omega
        · rw [meaG_app]; omega
      · rintro d ds ρ E ⟨dn, rest, v7, v8, v9, e1, e2, rfl, n7, n8, n9⟩ hE
        obtain ⟨s, rest, rfl, rfl, rfl⟩ : ∃ s rest', rest = s :: rest' ∧ d = .str (sgn s) ∧ ds = rest'.map (fun c => .str (sgn c)) := by
          cases rest with
          | nil => cases e2
          | cons c rest' => simp only [List.map_cons, List.cons.injEq] at e2; exact ⟨c, rest', rfl, e2.1, e2.2⟩
        have hs : s ∈ l := sub2 s (by rw [e1]; simp)
        have hss2 : s ∈ ss := by rw [e1]; simp
        have sc := hsy s hs
        have hdl : dn.length ≤ 12 := by have := congrArg List.length e1; simp at this; omega
        have hpush : ∀ (s k : Nat), (pushC l (cs, a, b) s k).length ≤ 1 := fun s k => by
          unfold pushC
          split
          · simp
          · simp
        have flen : ∀ (f : Nat → List Rw), (∀ x, (f x).length ≤ 4) → ∀ xs : List Nat, (xs.flatMap f).length ≤ xs.length * 4 := fun f hf xs => by
          induction xs with
          | nil => simp
          | cons x xs ih => rw [List.flatMap_cons, List.length_append, List.length_cons]; have := hf x; omega
        have flen1 : ∀ (f : Nat → List Rw), (∀ x, (f x).length ≤ 1) → ∀ xs : List Nat, (xs.flatMap f).length ≤ xs.length := fun f hf xs => by
          induction xs with
          | nil => simp
          | cons x xs ih => rw [List.flatMap_cons, List.length_append, List.length_cons]; have := hf x; omega
        have hD : (dn.flatMap fun s => (List.range (b + 1)).flatMap (pushC l (cs, a, b) s)).length ≤ 48 := by
          have := flen (fun s => (List.range (b + 1)).flatMap (pushC l (cs, a, b) s)) (fun s => by have := flen1 (pushC l (cs, a, b) s) (hpush s) (List.range (b + 1)); rw [List.length_range] at this; omega) dn
          omega
        generalize hDn : (dn.flatMap fun s => (List.range (b + 1)).flatMap (pushC l (cs, a, b) s)) = Dn at hD hE ⊢
        simp [okV_of n7, okV_of n8, okV_of n9]
        refine ⟨by omega, by omega, ?_⟩
        refine loop_ofE (fun ds ρ => ∃ (j i : Nat) (v8 v9 : Sv), j + i = b + 1 ∧ ds = rangeD (j : Int) i ∧ ρ = [.dat (.str (strL l)), .dat (.int (e : Nat)), .own false ((us ++ Dn ++ (List.range j).flatMap (pushC l (cs, a, b) s)).map rowD), .own false (fd.map chsD), .dat (chsD cs), .dat (.int (a : Nat)), .dat (.int (b : Nat)), .dat (.str (sgn s)), v8, v9] ∧ noV v8 ∧ noV v9) ?_ ?_ _ _ ⟨0, b + 1, v8, v9, by omega, rfl, by simp, n8, n9⟩
        · rintro ρ ⟨j, i, v8, v9, h1, h2, rfl, n8, n9⟩
          have : i = 0 := by cases i with
            | zero => rfl
            | succ i => rw [rangeD_consA] at h2; cases h2
          subst this
          obtain rfl : j = b + 1 := by omega
          refine hE _ ⟨dn ++ [s], rest, .dat (.str (sgn s)), v8, v9, by rw [e1]; simp, rfl, ?_, trivial, n8, n9⟩
          rw [List.flatMap_append, hDn, List.append_assoc]
          simp
        · rintro d ds ρ E ⟨j, i, v8, v9, h1, h2, rfl, n8, n9⟩ hE
          cases i with
          | zero => cases h2
          | succ i =>
            rw [rangeD_consA] at h2
            obtain ⟨rfl, rfl⟩ : d = .int (j : Int) ∧ ds = rangeD ((j : Int) + 1) i := by simpa using h2
            have hP : ((List.range j).flatMap (pushC l (cs, a, b) s)).length ≤ 4 := by have := flen1 (pushC l (cs, a, b) s) (hpush s) (List.range j); rw [List.length_range] at this; omega
            generalize hPn : (List.range j).flatMap (pushC l (cs, a, b) s) = Pn at hP hE ⊢
            have hj : 2 ^ j ≤ 8 := Nat.le_trans (Nat.pow_le_pow_right (by decide) (show j ≤ 3 by omega)) (by decide)
            have esc1 : escS j [s] = escC j s := by simp [escS]
            simp [okV_of n8, okV_of n9]
            refine ⟨[s], j, rfl, by simpa using sc, by simp; omega, by omega, ?_⟩
            rw [esc1]
            have el := escC_len (k := j) (c := s)
            have hel : (strL (escC j s)).length = (escC j s).length := strL_len
            simp [okV_of n8, okV_of n9, hel]
            refine ⟨by omega, by omega, ?_⟩
            have nxt : (List.range (j + 1)).flatMap (pushC l (cs, a, b) s) = Pn ++ pushC l (cs, a, b) s j := by rw [List.range_succ, List.flatMap_append, hPn]; simp
            have hcut := strL_cut (l := l) (a := a) (n := (escC j s).length) wat
            rw [hcut]
            by_cases hpre : (escC j s).isPrefixOf (l.drop a) = true
            · have e4 : (l.drop a).take (escC j s).length = escC j s := by have := pre_take (x := escC j s) (y := l.drop a); rw [hpre] at this; exact beq_iff_eq.mp this
              rw [if_pos (by rw [e4])]
              have e5 : pushC l (cs, a, b) s j = [(cs ++ [(s, j)], a + (escC j s).length, j)] := by unfold pushC; rw [if_pos hpre]
              rw [e5] at nxt
              have e6 : bAddB (chsD cs) (.lst [.tup [.str (sgn s), .int (j : Nat)]]) = fun Q => Q (chsD (cs ++ [(s, j)])) := by
                funext Q
                simp [chsD, runD]
                exact fun _ => by omega
              simp [e6, hel]
              refine ⟨by omega, by omega, hE _ ⟨j + 1, i, .dat (.int (j : Nat)), .dat (.str (strL (escC j s))), by omega, by simp, ?_, trivial, trivial⟩⟩
              rw [nxt]
              simp [rowD]
            · have e4 : ¬ strL ((l.drop a).take (escC j s).length) = strL (escC j s) := fun z => hpre (by
                have := pre_take (x := escC j s) (y := l.drop a)
                rw [← this, beq_iff_eq]
                have := strL_eqv (a := (l.drop a).take (escC j s).length) (b := escC j s)
                rw [z] at this
                simpa using this.symm)
              rw [if_neg e4]
              have e5 : pushC l (cs, a, b) s j = [] := by unfold pushC; rw [if_neg hpre]
              rw [e5, List.append_nil] at nxt
              refine hE _ ⟨j + 1, i, .dat (.int (j : Nat)), .dat (.str (strL (escC j s))), by omega, by simp, ?_, trivial, trivial⟩
              rw [nxt]
              simp
/-! ### the blocks of characters -/
def blocksC (cs : Ch) : Bx := cs.foldl (fun bs p => addB bs p.1 p.2 1) []
def c_a_blocks : Ctr := fun ρ Q _ => ∃ cs : Ch, ρ = [.dat (chsD cs)] ∧ ChOk cs ∧ cs.length ≤ 100000 ∧ Q (.own false ((blocksC cs).map blkD)) [.dat (chsD cs)]
/-- a_blocks, slots ['l_some', 'l_found', 'l_symbol', 'l_level']; lends []; gives own -/
def b_a_blocks : AS := sSeq (sSetO (oLst (aNil)) 1)
  (sSeq (sFor (iAny (aVar 0)) (agTup (agCons (agName 2) (agCons (agName 3) (agNil)))) (sIf (aAnd (tCmpV bNe (vVar 1) (vLst (vNil))) (tCmpE bEq (aSl (aOwnIx 1 (aUn bNeg (aC (.int 1)))) (aNoP) (aPart (aC (.int 2)))) (aTup (aCons (aVar 2) (aCons (aVar 3) (aNil)))))) (sPutO 1 (aTup (aCons (aVar 2) (aCons (aVar 3) (aCons (aOp bAddB (aOp bIx (aOwnIx 1 (aUn bNeg (aC (.int 1)))) (aC (.int 2))) (aC (.int 1))) (aNil))))) (aUn bNeg (aC (.int 1)))) (sAppO 1 (aTup (aCons (aVar 2) (aCons (aVar 3) (aCons (aC (.int 1)) (aNil))))))))
  (sRetV 1))
theorem p_a_blocks : Sat 1 4 b_a_blocks c_a_blocks := by
  intro ρ Q Z hl h
  obtain ⟨cs, rfl, hc, hlen, hq⟩ := h
  unfold b_a_blocks
  simp [endsA]
  unfold chsD
  simp
  refine loop_ofE (fun ds ρ => ∃ (us : Ch) (bs : Bx) (v2 v3 : Sv), ρ = [.dat (chsD cs), .own false (bs.map blkD), v2, v3] ∧ noV v2 ∧ noV v3 ∧ ds = us.map (fun p => runD (p.1, ((p.2 : Nat) : Int))) ∧ ChOk us ∧ BInv bs ∧ bs.length + us.length ≤ 100000 ∧ us.foldl (fun bs p => addB bs p.1 p.2 1) bs = blocksC cs) ?_ ?_ _ _ ⟨cs, [], .un, .un, by simp [chsD], trivial, trivial, by simp [Function.comp_def], hc, .nil, by simpa using hlen, rfl⟩
  · rintro ρ ⟨us, bs, v2, v3, rfl, -, -, e1, -, -, -, e2⟩
    have : us = [] := by cases us with
      | nil => rfl
      | cons _ _ => cases e1
    subst this
    have e2 : bs = blocksC cs := e2
    subst e2
    simpa using hq
  · rintro d ds ρ E ⟨us, bs, v2, v3, rfl, n2, n3, e1, hu, hi, hln, e2⟩ hE
    obtain ⟨p, us, rfl, rfl, rfl⟩ : ∃ p us', us = p :: us' ∧ d = runD (p.1, ((p.2 : Nat) : Int)) ∧ ds = us'.map (fun p => runD (p.1, ((p.2 : Nat) : Int))) := by
      cases us with
      | nil => cases e1
      | cons p us' => simp only [List.map_cons, List.cons.injEq] at e1; exact ⟨p, us', rfl, e1.1, e1.2⟩
    obtain ⟨c, k⟩ := p
    have sc := hu.sy (c, k) (by simp)
    have hk := hu.lv (c, k) (by simp)
    simp only at sc hk
    simp only [List.length_cons] at hln
    have hu2 : ChOk us := ⟨fun p hp => hu.sy p (by simp [hp]), fun p hp => hu.lv p (by simp [hp])⟩
    have ok := eqOk_blksI hi
    have fin : E.nx [.dat (chsD cs), .own false ((addB bs c k 1).map blkD), .dat (.str (sgn c)), .dat (.int (k : Nat))] :=
      hE _ ⟨us, addB bs c k 1, _, _, rfl, trivial, trivial, rfl, hu2, (addB_inv hi sc hk).1, by have := (addB_inv (n := 1) hi sc hk).2.1; omega, e2⟩
    rcases List.eq_nil_or_concat bs with rfl | ⟨ws, u, hu'⟩
    · have e : addB [] c k 1 = [(c, k, 1)] := by simp [addB]
      rw [e] at fin
      simp [runD, okV_of n2, okV_of n3]
      simpa [blkD, pieD] using fin
    · rw [List.concat_eq_append] at hu'
      have e3 : bs.map blkD = ws.map blkD ++ [.tup [.str (sgn u.1), .int u.2.1, .int u.2.2]] := by simp [hu', blkD, pieD]
      have hsu := hi.sym u (by simp [hu'])
      have hul : ws.length + 1 < 16777216 := by simp [hu'] at hln; omega
      rw [e3] at ok ⊢
      simp [runD, okV_of n2, okV_of n3, ok, atI_last]
      refine ⟨by decide, ?_⟩
      rw [cut2, eqv_ssi]
      refine ⟨.inl ⟨eqOk_ssi hsu, eqOk_ssi sc⟩, ?_⟩
      by_cases hh : u.1 = c ∧ u.2.1 = k
      · have e : addB bs c k 1 = ws ++ [(c, k, u.2.2 + 1)] := by simp [addB, hu', hh]
        rw [e] at fin
        rw [if_pos (by simp [hh])]
        refine ⟨ws.length, by rw [ixN_last], ?_⟩
        have := set_last (us := ws.map blkD) (u := .tup [.str (sgn u.1), .int u.2.1, .int u.2.2]) (v := .tup [.str (sgn c), .int k, .int (u.2.2 + 1)])
        rw [List.length_map] at this
        rw [this]
        simpa [blkD, pieD] using fin
      · have e : addB bs c k 1 = bs ++ [(c, k, 1)] := by simp [addB, hu', hh]
        rw [e, List.map_append, e3] at fin
        rw [if_neg (by simp; intro h h'; exact hh ⟨h, by omega⟩)]
        exact ⟨hul, by simpa [blkD, pieD] using fin⟩
theorem blocksC_snoc {cs : Ch} {p : Nat × Nat} : blocksC (cs ++ [p]) = addB (blocksC cs) p.1 p.2 1 := by simp [blocksC]
theorem last_cases {α : Type} (xs : List α) : xs = [] ∨ ∃ ys y, xs = ys ++ [y] := by
  rcases List.eq_nil_or_concat xs with h | ⟨ys, y, h⟩
  · exact .inl h
  · exact .inr ⟨ys, y, by rw [h, List.concat_eq_append]⟩
theorem desc_app {a : Ch} {p : Nat × Nat} : ∀ {e : Nat}, descC e (a ++ [p]) → descC e a ∧ ∀ q ∈ a, p.2 ≤ q.2 := by
  induction a with
  | nil => intro e _; exact ⟨trivial, by simp⟩
  | cons x a ih =>
    rintro e ⟨h1, h2⟩
    obtain ⟨k1, k2⟩ := ih h2
    refine ⟨⟨h1, k1⟩, fun q hq => ?_⟩
    rcases List.mem_cons.mp hq with rfl | hq
    · cases a with
      | nil => exact h2.1
      | cons y a => exact Nat.le_trans (k2 y (by simp)) k1.1
    · exact k2 q hq
theorem desc_le {a : Ch} : ∀ {e : Nat}, descC e a → ∀ q ∈ a, q.2 ≤ e := by
  induction a with
  | nil => intro e _ q hq; cases hq
  | cons x a ih =>
    rintro e ⟨h1, h2⟩ q hq
    rcases List.mem_cons.mp hq with rfl | hq
    · exact h1
    · exact Nat.le_trans (ih h2 q hq) h1
theorem chnB_snoc : ∀ {bs : Bx} {x : Nat × Nat × Int}, Chn bs → (∀ u, bs.getLast? = some u → nextB u x) → Chn (bs ++ [x])
  | [], _, _, _ => trivial
  | [a], x, _, h => ⟨h a rfl, trivial⟩
  | a :: c :: r, x, h, hx => ⟨h.1, chnB_snoc (bs := c :: r) h.2 fun u hu => hx u (by simpa using hu)⟩
theorem chnB_last : ∀ {bs : Bx} {x y : Nat × Nat × Int}, Chn (bs ++ [x]) → y.1 = x.1 → y.2.1 = x.2.1 → Chn (bs ++ [y])
  | [], _, _, _, _, _ => trivial
  | [a], x, y, h, h1, h2 => ⟨by have := h.1; unfold nextB at *; rw [h1, h2]; exact this, trivial⟩
  | a :: c :: r, x, y, h, h1, h2 => ⟨h.1, chnB_last (bs := c :: r) h.2 h1 h2⟩
theorem sumI_app (xs : List Int) (y : Int) : (xs ++ [y]).sum = xs.sum + y := by simp
/-- the blocks of characters are a history -/
theorem blocksC_ok : ∀ {n : Nat} {cs : Ch}, cs.length = n → n ≤ 100000 → ChOk cs → (∀ e, descC e cs → HistOk (blocksC cs)) ∧ BInv (blocksC cs) ∧ (blocksC cs).length ≤ n ∧ cntB (blocksC cs) = n ∧ (∀ b ∈ blocksC cs, b.2.2 ≤ n) ∧ (∀ b ∈ blocksC cs, ∃ p ∈ cs, p.1 = b.1 ∧ p.2 = b.2.1) ∧ (∀ u, (blocksC cs).getLast? = some u → ∃ p ∈ cs, p.2 = u.2.1) := by
  intro n
  induction n with
  | zero =>
    intro cs h _ _
    rw [List.length_eq_zero_iff.mp h]
    exact ⟨fun _ _ => ⟨⟨by simp [blocksC], by simp [blocksC], by simp [blocksC], by simp [blocksC]⟩, trivial⟩, .nil, by simp [blocksC], by simp [blocksC, cntB], by simp [blocksC], by simp [blocksC], by simp [blocksC]⟩
  | succ n ih =>
    intro cs h hn hok
    rcases last_cases cs with rfl | ⟨us, p, rfl⟩
    · cases h
    · have hl : us.length = n := by simpa using h
      have hu : ChOk us := ⟨fun q hq => hok.sy q (by simp [hq]), fun q hq => hok.lv q (by simp [hq])⟩
      obtain ⟨h1, h2, h3, h4, h5, h6, h7⟩ := ih hl (by omega) hu
      have sc := hok.sy p (by simp)
      have lv := hok.lv p (by simp)
      rw [blocksC_snoc]
      have inv := (addB_inv (n := 1) h2 sc lv)
      have big : ∀ b ∈ addB (blocksC us) p.1 p.2 1, b.2.2 ≤ ((n + 1 : Nat) : Int) := by
        rcases addB_cases (bs := blocksC us) (c := p.1) (k := p.2) (show (0 : Int) < 1 by decide) with ⟨e, -⟩ | ⟨ws, m, e0, e⟩
        · rw [e]
          intro b hb
          rcases List.mem_append.mp hb with hb | hb
          · have := h5 b hb; omega
          · rw [List.mem_singleton.mp hb]; simp only; omega
        · rw [e]
          intro b hb
          rcases List.mem_append.mp hb with hb | hb
          · have := h5 b (by rw [e0]; simp [hb]); omega
          · have := h5 (p.1, p.2, m) (by rw [e0]; simp)
            rw [List.mem_singleton.mp hb]
            simp only at this ⊢
            omega
      refine ⟨fun e hd => ⟨⟨inv.1.sym, inv.1.lev, inv.1.pos, fun b hb => ?_⟩, ?_⟩, inv.1, by have := inv.2.1; omega, ?_, big, ?_, ?_⟩
      · have b1 := big b hb
        have b2 := inv.1.pos b hb
        exact smI_lit (by have : (100001 : Nat) < 2 ^ 1000 := by decide +kernel
                          omega)
      · obtain ⟨d1, d2⟩ := desc_app hd
        have hc := (h1 e d1).chn
        rcases addB_cases (bs := blocksC us) (c := p.1) (k := p.2) (show (0 : Int) < 1 by decide) with ⟨e, hne⟩ | ⟨ws, m, e0, e⟩
        · rw [e]
          refine chnB_snoc hc fun u hu => ⟨?_, hne u hu⟩
          obtain ⟨q, hq, e1⟩ := h7 u hu
          have := d2 q hq
          simp only
          omega
        · rw [e]
          rw [e0] at hc
          exact chnB_last hc rfl rfl
      · rcases addB_cases (bs := blocksC us) (c := p.1) (k := p.2) (show (0 : Int) < 1 by decide) with ⟨e, -⟩ | ⟨ws, m, e0, e⟩
        · rw [e]
          unfold cntB at h4 ⊢
          rw [List.map_append, List.map_cons, List.map_nil, sumI_app, h4]
          simp
        · rw [e]
          rw [e0] at h4
          unfold cntB at h4 ⊢
          rw [List.map_append, List.map_cons, List.map_nil, sumI_app] at h4 ⊢
          simp only at h4 ⊢
          omega
      · rcases addB_cases (bs := blocksC us) (c := p.1) (k := p.2) (show (0 : Int) < 1 by decide) with ⟨e, -⟩ | ⟨ws, m, e0, e⟩
        · rw [e]
          intro b hb
          rcases List.mem_append.mp hb with hb | hb
          · obtain ⟨q, hq, k⟩ := h6 b hb
            exact ⟨q, by simp [hq], k⟩
          · rw [List.mem_singleton.mp hb]; exact ⟨p, by simp, rfl, rfl⟩
        · rw [e]
          intro b hb
          rcases List.mem_append.mp hb with hb | hb
          · obtain ⟨q, hq, k⟩ := h6 b (by rw [e0]; simp [hb])
            exact ⟨q, by simp [hq], k⟩
          · rw [List.mem_singleton.mp hb]; exact ⟨p, by simp, rfl, rfl⟩
      · intro u hu
        rcases addB_cases (bs := blocksC us) (c := p.1) (k := p.2) (show (0 : Int) < 1 by decide) with ⟨e, -⟩ | ⟨ws, m, e0, e⟩
        · rw [e] at hu
          simp at hu
          subst hu
          exact ⟨p, by simp, rfl⟩
        · rw [e] at hu
          simp at hu
          subst hu
          exact ⟨p, by simp, rfl⟩
/-! ### a drawn string, at times escaped in between -/
def c_r_string : Ctr := fun ρ Q _ => ∃ b r m, ρ = [.own true r, .dat (.int (m : Nat))] ∧ Bag (b + 100) r ∧ m ≤ 20 ∧ ∀ r' l, Bag b r' → (∀ c ∈ l, symC c) → l.length ≤ m → Q (.dat (.str (strL l))) [.own true r', .dat (.int (m : Nat))]
/-- r_string, slots ['l_bag_here', 'l_most', 'l_found', 'l_step', 'l_other']; lends ['l_bag_here']; gives dat -/
def b_r_string : AS := sSeq (sAsg (aC (.str "")) (agName 2))
  (sSeq (sFor (iRange1 (aCons (aDef c_g_draw [] (rIo 0 (rDat (aOp bAddB (aVar 1) (aC (.int 1))) (rNil)))) (aNil))) (agName 3) (sSeq (sAsg (aDef c_l_escaped [] (rDat (aVar 2) (rDat (aC (.int 1)) (rNil)))) (agName 4))
  (sIf (aAnd (tCmpE bEq (aDef c_g_draw [] (rIo 0 (rDat (aC (.int 4)) (rNil)))) (aC (.int 0))) (tCmpV bLt (vCall bLen (vCons (vVar 4) (vNil))) (vVar 1))) (sAsg (aVar 4) (agName 2)) (sIf (tCmpV bLt (vCall bLen (vCons (vVar 2) (vNil))) (vVar 1)) (sAsg (aOp bAddB (aVar 2) (aOp bIx (aFrz (oLst (aCons (aC (.str "\\")) (aCons (aC (.str "\"")) (aCons (aC (.str "\\")) (aCons (aC (.str "a")) (aCons (aDef c_l_plain [] (rIo 0 (rNil))) (aNil)))))))) (aDef c_g_draw [] (rIo 0 (rDat (aC (.int 5)) (rNil)))))) (agName 2)) (sNx)))))
  (sRet (aVar 2)))
theorem p_r_string : Sat 2 5 b_r_string c_r_string := by
  intro ρ Q Z hl h
  obtain ⟨b, r, m, rfl, hr, hm, hq⟩ := h
  unfold b_r_string
  simp [endsA]
  refine ⟨b + 99, r, (m : Int) + 1, rfl, hr, cdiv_lit (by omega), fun r1 n hr1 n0 n1 => ?_⟩
  simp
  refine ⟨by omega, by omega, ?_⟩
  refine loop_ofE (fun ds ρ => ∃ (r : List D) (l : List Nat) (v3 v4 : Sv), ρ = [.own true r, .dat (.int (m : Nat)), .dat (.str (strL l)), v3, v4] ∧ noV v3 ∧ noV v4 ∧ Bag (b + 4 * ds.length) r ∧ (∀ c ∈ l, symC c) ∧ l.length ≤ m) ?_ ?_ _ _ ⟨r1, [], .un, .un, rfl, trivial, trivial, hr1.mono (by rw [rangeD_len]; omega), by simp, by simp⟩
  · rintro ρ ⟨r, l, v3, v4, rfl, -, -, hb, hs, hlen⟩
    simp
    exact hq r l (hb.mono (by simp)) hs hlen
  · rintro d ds ρ E ⟨r, l, v3, v4, rfl, n3, n4, hb, hs, hlen⟩ hE
    simp only [List.length_cons] at hb
    have e1 := escS_len (k := 1) (l := l)
    have es := escS_sym (k := 1) hs
    have hel : (strL (escS 1 l)).length = (escS 1 l).length := strL_len
    have hll : (strL l).length = l.length := strL_len
    simp [okV_of n3, okV_of n4]
    refine ⟨l, 1, rfl, hs, by omega, by omega, ?_⟩
    simp [okV_of n4]
    refine ⟨b + 4 * ds.length + 3, r, 4, rfl, hb.mono (by omega), cdiv_lit (by omega), fun r2 k hr2 k0 k1 => ?_⟩
    have two : ∀ (r3 : List D) (c : Nat), Bag (b + 4 * ds.length) r3 → symC c → l.length < m → E.nx [.own true r3, .dat (.int (m : Nat)), .dat (.str (strL (l ++ [c]))), .dat d, .dat (.str (strL (escS 1 l)))] := fun r3 c hb3 hc hlt =>
      hE _ ⟨r3, l ++ [c], _, _, rfl, trivial, trivial, hb3, by simpa [or_imp, forall_and] using ⟨hs, hc⟩, by simp; omega⟩
    have rest : sIf (tCmpV bLt (vCall bLen (vCons (vVar 2) vNil)) (vVar 1)) (sAsg (aOp bAddB (aVar 2) (aOp bIx (aFrz (oLst (aCons (aC (.str "\\")) (aCons (aC (.str "\"")) (aCons (aC (.str "\\")) (aCons (aC (.str "a")) (aCons (aDef c_l_plain [] (rIo 0 rNil)) aNil))))))) (aDef c_g_draw [] (rIo 0 (rDat (aC (.int 5)) rNil))))) (agName 2)) sNx E [.own true r2, .dat (.int (m : Nat)), .dat (.str (strL l)), .dat d, .dat (.str (strL (escS 1 l)))] := by
      simp [hll]
      refine ⟨by omega, ?_⟩
      by_cases hlt : l.length < m
      · rw [if_pos (by omega)]
        refine ⟨b + 4 * ds.length + 1, r2, rfl, hr2.mono (by omega), fun r3 c hr3 hc => ?_⟩
        simp
        refine ⟨b + 4 * ds.length, r3, 5, rfl, hr3, cdiv_lit (by omega), fun r4 j hr4 j0 j1 => ?_⟩
        obtain ⟨c', hc', ea⟩ : ∃ c', symC c' ∧ atI [D.str (Str.ofString "\\"), D.str (Str.ofString "\""), D.str (Str.ofString "\\"), D.str (Str.ofString "a"), D.str (sgn c)] j = some (.str (sgn c')) := by
          have o1 : Str.ofString "\\" = sgn 92 := by decide +kernel
          have o2 : Str.ofString "\"" = sgn 34 := by decide +kernel
          have o3 : Str.ofString "a" = sgn 97 := by decide +kernel
          rw [o1, o2, o3]
          rcases (show j = 0 ∨ j = 1 ∨ j = 2 ∨ j = 3 ∨ j = 4 by omega) with rfl | rfl | rfl | rfl | rfl
          · exact ⟨92, by decide, by simp⟩
          · exact ⟨34, by decide, by simp⟩
          · exact ⟨92, by decide, by simp⟩
          · exact ⟨97, by decide, by simp⟩
          · exact ⟨c, hc.1, by rw [show (4 : Int) = ((4 : Nat) : Int) from rfl, atI_nat]; rfl⟩
        simp
        refine ⟨_, ea, ?_⟩
        have ec : strL l ++ sgn c' = strL (l ++ [c']) := strL_app (x := l) (y := [c'])
        have hsg : (sgn c').length = 1 := rfl
        simp [hll, hsg, ec]
        exact ⟨by omega, two r4 c' hr4 hc' hlt⟩
      · rw [if_neg (by omega)]
        exact hE _ ⟨r2, l, _, _, rfl, trivial, trivial, hr2.mono (by omega), hs, hlen⟩
    simp [hel, -q_sIf]
    split
    · refine ⟨by omega, ?_⟩
      split
      · exact hE _ ⟨r2, escS 1 l, _, _, rfl, trivial, trivial, hr2.mono (by omega), es, by omega⟩
      · exact rest
    · exact rest
/-! ### the greatest history, character by character -/
/-- the levels of the positions -/
def prof (cs : Ch) : List Nat := cs.flatMap fun p => List.replicate (escC p.2 p.1).length p.2
theorem prof_cons {p : Nat × Nat} {r : Ch} : prof (p :: r) = List.replicate (escC p.2 p.1).length p.2 ++ prof r := by simp [prof]
theorem prof_app {a b : Ch} : prof (a ++ b) = prof a ++ prof b := by simp [prof]
theorem prof_len : ∀ {cs : Ch}, (prof cs).length = (strC cs).length
  | [] => rfl
  | p :: r => by rw [prof_cons, strC_cons, List.length_append, List.length_append, List.length_replicate, prof_len]
theorem desc_mono : ∀ {cs : Ch} {e e' : Nat}, e ≤ e' → descC e cs → descC e' cs
  | [], _, _, _, _ => trivial
  | _ :: _, _, _, h, ⟨h1, h2⟩ => ⟨Nat.le_trans h1 h, h2⟩
theorem prof_le {cs : Ch} {e : Nat} (h : descC e cs) : ∀ a ∈ prof cs, a ≤ e := fun a ha => by
  obtain ⟨p, hp, hm⟩ := List.mem_flatMap.mp ha
  rw [(List.mem_replicate.mp hm).2]
  exact desc_le h p hp
theorem desc_right : ∀ {a b : Ch} {e : Nat}, descC e (a ++ b) → descC e b
  | [], _, _, h => h
  | p :: a, b, e, ⟨h1, h2⟩ => desc_mono h1 (desc_right h2)
/-- a history is told by its levels -/
theorem prof_inj : ∀ {a b : Ch}, strC a = strC b → prof a = prof b → a = b
  | [], b, h, _ => by
    have := strC_len (cs := b)
    rw [← h] at this
    exact (List.length_eq_zero_iff.mp (Nat.le_zero.mp this)).symm
  | p :: a, [], h, _ => by
    have := strC_len (cs := p :: a)
    rw [h] at this
    simp [strC] at this
  | (s, k) :: a, (t, j) :: b, h, hp => by
    rw [strC_cons, strC_cons] at h
    rw [prof_cons, prof_cons] at hp
    simp only at h hp
    have l1 := (escC_len (k := k) (c := s)).1
    have l2 := (escC_len (k := j) (c := t)).1
    obtain ⟨n, hn⟩ : ∃ n, (escC k s).length = n + 1 := ⟨(escC k s).length - 1, by omega⟩
    obtain ⟨m, hm⟩ : ∃ m, (escC j t).length = m + 1 := ⟨(escC j t).length - 1, by omega⟩
    have ekj : k = j := by
      rw [hn, hm, List.replicate_succ, List.replicate_succ] at hp
      exact (List.cons.inj hp).1
    subst ekj
    obtain ⟨e1, e2⟩ := escC_pre h
    subst e1
    rw [List.append_cancel_left_eq] at hp
    rw [prof_inj e2 hp]
/-! ### the package's greatest history, character by character -/
theorem chrs_app {a b : Bx} : chrs (a ++ b) = chrs a ++ chrs b := by simp [chrs]
theorem chrs_one {c k : Nat} {n : Int} : chrs [(c, k, n)] = List.replicate n.toNat (c, k) := by simp [chrs]
theorem chrs_add {bs : Bx} {c k : Nat} {n : Int} (h : ∀ b ∈ bs, 1 ≤ b.2.2) (hn : 0 ≤ n) : chrs (addB bs c k n) = chrs bs ++ List.replicate n.toNat (c, k) := by
  by_cases h0 : 0 < n
  · rcases addB_cases (bs := bs) (c := c) (k := k) h0 with ⟨e, -⟩ | ⟨us, m, e0, e⟩
    · rw [e, chrs_app, chrs_one]
    · have hm := h (c, k, m) (by rw [e0]; simp)
      simp only at hm
      rw [e, e0, chrs_app, chrs_app, chrs_one, chrs_one, List.append_assoc, List.replicate_append_replicate]
      congr 2
      omega
  · rw [addB_zero h0, show n.toNat = 0 by omega]
    simp
theorem add_pos1 {bs : Bx} {c k : Nat} {n : Int} (h : ∀ b ∈ bs, 1 ≤ b.2.2) : ∀ b ∈ addB bs c k n, 1 ≤ b.2.2 := by
  by_cases h0 : 0 < n
  · rcases addB_cases (bs := bs) (c := c) (k := k) h0 with ⟨e, -⟩ | ⟨us, m, e0, e⟩
    · rw [e]
      intro b hb
      rcases List.mem_append.mp hb with hb | hb
      · exact h b hb
      · rw [List.mem_singleton.mp hb]; simp only; omega
    · have hm := h (c, k, m) (by rw [e0]; simp)
      simp only at hm
      rw [e]
      intro b hb
      rcases List.mem_append.mp hb with hb | hb
      · exact h b (by rw [e0]; simp [hb])
      · rw [List.mem_singleton.mp hb]; simp only; omega
  · rw [addB_zero h0]; exact h
/-- the characters of parts of a group -/
def chP (q : Bool) : List (Nat × Int) → Ch
  | [] => []
  | (k, n) :: r => if q && r.isEmpty then List.replicate (n - 1).toNat (92, k) ++ [(34, k)] else List.replicate n.toNat (92, k) ++ chP q r
/-- a group of z signs -/
def grpN (q : Bool) (z : Nat) : List Nat := if q then List.replicate (z - 1) 92 ++ [34] else List.replicate z 92
/-- no group goes on here -/
def freeL (T : List Nat) : Prop := ∀ c r, T = c :: r → c ≠ 92 ∧ c ≠ 34
theorem grpN_cons {q : Bool} {z m : Nat} (h : m < z) : grpN q z = List.replicate m 92 ++ grpN q (z - m) := by
  unfold grpN
  cases q with
  | true =>
    simp only [if_true]
    rw [← List.append_assoc, List.replicate_append_replicate]
    congr 2
    omega
  | false =>
    simp only [Bool.false_eq_true, if_false]
    rw [List.replicate_append_replicate]
    congr 1
    omega
def endN (q : Bool) : Nat := if q then 34 else 92
/-- pieces: behind a group without a quote stands a plain piece or nothing -/
def Adj92 : Pc → Prop
  | p :: p' :: r => (p.1 = 92 → p'.1 ≠ 92 ∧ p'.1 ≠ 34) ∧ (p.1 = 92 → p.2.2 = 1) ∧ Adj92 (p' :: r)
  | [p] => p.1 = 92 → p.2.2 = 1
  | [] => True
theorem pieceC_free {ps : Pc} (h : ∀ p, ps.head? = some p → p.1 ≠ 92 ∧ p.1 ≠ 34) (hp : ∀ p ∈ ps, 1 ≤ p.2.2) : freeL (ps.flatMap pieceC) := by
  cases ps with
  | nil => intro c r e; cases e
  | cons p ps =>
    obtain ⟨h1, h2⟩ := h p rfl
    have hm := hp p (by simp)
    intro c r e
    have e1 : pieceC p = List.replicate p.2.2.toNat p.1 := by
      unfold pieceC
      rw [if_neg h1, if_pos (.inl h2)]
    obtain ⟨m, hm2⟩ : ∃ m, p.2.2.toNat = m + 1 := ⟨p.2.2.toNat - 1, by omega⟩
    rw [List.flatMap_cons, e1, hm2, List.replicate_succ] at e
    have := (List.cons.inj e).1
    rw [← this]
    exact ⟨h1, h2⟩
/-! ### pieces of a text -/
def noTail (ps : Pc) : Prop := ∀ p, ps.getLast? = some p → p.1 ≠ 92
theorem adjC_app : ∀ {ps : Pc} {x : Nat × Int × Int}, Adj92 ps → (∀ p, ps.getLast? = some p → p.1 = 92 → x.1 ≠ 92 ∧ x.1 ≠ 34) → (x.1 = 92 → x.2.2 = 1) → Adj92 (ps ++ [x])
  | [], x, _, _, h => h
  | [p], x, h1, h2, h3 => ⟨h2 p rfl, h1, h3⟩
  | p :: q :: r, x, h1, h2, h3 => ⟨h1.1, h1.2.1, adjC_app (ps := q :: r) h1.2.2 (fun y hy => h2 y (by simpa using hy)) h3⟩
theorem adjC_last : ∀ {ps : Pc} {x y : Nat × Int × Int}, Adj92 (ps ++ [x]) → y.1 = x.1 → (y.1 = 92 → y.2.2 = 1) → Adj92 (ps ++ [y])
  | [], x, y, _, _, h => h
  | [p], x, y, h1, e, h3 => ⟨by rw [e]; exact h1.1, h1.2.1, h3⟩
  | p :: q :: r, x, y, h1, e, h3 => ⟨h1.1, h1.2.1, adjC_last (ps := q :: r) h1.2.2 e h3⟩
theorem addP_adj {ps : Pc} {c : Nat} {z m : Int} (h : Adj92 ps) (ht : noTail ps ∨ (c ≠ 92 ∧ c ≠ 34)) (h1 : c = 92 → m = 1) : Adj92 (addP ps c z m) := by
  unfold addP
  split
  · cases e : ps.getLast? with
    | none =>
      have : ps = [] := List.getLast?_eq_none_iff.mp e
      subst this
      exact h1
    | some p =>
      obtain ⟨us, eu⟩ : ∃ us, ps = us ++ [p] := by
        rcases List.eq_nil_or_concat ps with h | ⟨us, u, h⟩
        · rw [h] at e; cases e
        · rw [List.concat_eq_append] at h
          subst h
          simp at e
          exact ⟨us, by rw [e]⟩
      simp only
      split
      · rename_i hh
        rw [eu] at h ⊢
        rw [List.dropLast_concat]
        exact adjC_last h hh.2.1.symm fun e => absurd e hh.1
      · refine adjC_app h (fun q hq hq2 => ?_) h1
        rw [e] at hq
        cases hq
        rcases ht with ht | ht
        · exact absurd hq2 (ht p e)
        · exact ht
  · exact h
theorem addP_tail {ps : Pc} {c : Nat} {z m : Int} (hc : c ≠ 92) (h : noTail ps ∨ 0 < m) : noTail (addP ps c z m) := by
  unfold addP
  split
  · intro p hp
    cases e : ps.getLast? with
    | none =>
      rw [e] at hp
      simp at hp
      rw [← hp]
      exact hc
    | some q =>
      rw [e] at hp
      simp only at hp
      split at hp
      · simp at hp
        rw [← hp]
        exact hc
      · simp at hp
        rw [← hp]
        exact hc
  · rename_i hm
    exact h.elim id fun h => absurd h hm
theorem piecesF_adj : ∀ {bs : Bx} {w : Int} {acc : Pc}, (∀ b ∈ bs, 1 ≤ b.2.2) → Adj92 acc → noTail acc → Adj92 (piecesF bs w acc)
  | [], w, acc, _, h, ht => by
    rw [piecesF]
    by_cases hw : 0 < w
    · rw [if_pos hw]
      exact addP_adj h (.inl ht) fun _ => rfl
    · rw [if_neg hw]
      have : addP acc 92 w 0 = acc := by unfold addP; rw [if_neg (by decide)]
      rw [this]
      exact h
  | b :: bs, w, acc, hb, h, ht => by
    have hbs : ∀ x ∈ bs, 1 ≤ x.2.2 := fun x hx => hb x (by simp [hx])
    have b1 := hb b (by simp)
    rw [piecesF]
    by_cases h92 : b.1 = 92
    · rw [if_pos h92]
      exact piecesF_adj hbs h ht
    · rw [if_neg h92]
      by_cases h34 : b.1 = 34
      · rw [if_pos h34]
        have a1 := addP_adj (c := 34) (z := w + wid b.1 b.2.1) (m := 1) h (.inl ht) (fun e => absurd e (by decide))
        have t1 := addP_tail (c := 34) (z := w + wid b.1 b.2.1) (m := 1) (by decide) (.inl ht)
        exact piecesF_adj hbs (addP_adj a1 (.inl t1) fun e => absurd e (by decide)) (addP_tail (by decide) (.inl t1))
      · rw [if_neg h34]
        have a1 : Adj92 (addP acc 92 w (if 0 < w then 1 else 0)) := by
          by_cases hw : 0 < w
          · rw [if_pos hw]; exact addP_adj h (.inl ht) fun _ => rfl
          · rw [if_neg hw]
            have : addP acc 92 w 0 = acc := by unfold addP; rw [if_neg (by decide)]
            rw [this]
            exact h
        exact piecesF_adj hbs (addP_adj a1 (.inr ⟨h92, h34⟩) fun e => absurd e h92) (addP_tail h92 (.inr (by omega)))
theorem piecesB_adj {bs : Bx} (h : ∀ b ∈ bs, 1 ≤ b.2.2) : Adj92 (piecesB bs) := piecesF_adj h trivial fun p hp => by cases hp
/-! ### k17: what is due -/
def natsL (xs : List Nat) : D := .lst ((xs.map fun n : Nat => (n : Int)).map .int)
theorem eqv_intsK : ∀ {a b : List Int}, PyData.eqv (D.lst (a.map .int)).py (D.lst (b.map .int)).py = (a == b)
  | [], [] => by simp [D.py, D.pyL, PyData.eqv, PyData.eqvAll]
  | [], u :: us => by simp [D.py, D.pyL, PyData.eqv, PyData.eqvAll]
  | t :: ts, [] => by simp [D.py, D.pyL, PyData.eqv, PyData.eqvAll]
  | t :: ts, u :: us => by
    have ih := eqv_intsK (a := ts) (b := us)
    simp only [D.py, D.pyL, PyData.eqv, PyData.eqvAll, List.map_cons] at ih ⊢
    rw [ih, List.cons_beq_cons]
theorem natsL_sok {a : List Nat} {nd : Bool} (h : ∀ n ∈ a, n ≤ 1000) : (natsL a).sok nd = true := by
  show D.sokL nd _ = true
  rw [sokL_iff]
  intro d hd
  obtain ⟨i, hi, rfl⟩ := List.mem_map.mp hd
  obtain ⟨n, hn, rfl⟩ := List.mem_map.mp hi
  have := h n hn
  simp only [D.sok, decide_eq_true_eq]
  exact Nat.lt_trans (log2_lt (by decide) (smI_lit (by have : (1000 : Nat) < 2 ^ 1000 := by decide +kernel
                                                       omega))) (by omega)
theorem natsL_dep {a : List Nat} : (natsL a).dep ≤ 1 := by
  have : D.depL (((a.map fun n : Nat => (n : Int)).map .int)) ≤ 0 := by
    rw [depL_le]
    intro d hd
    obtain ⟨i, hi, rfl⟩ := List.mem_map.mp hd
    exact Nat.le_refl _
  show D.depL _ + 1 ≤ 1
  omega
def c_m_profile : Ctr := fun ρ Q _ => ∃ cs : Ch, ρ = [.dat (chsD cs)] ∧ (∀ p ∈ cs, symC p.1 ∧ p.2 ≤ 10) ∧ (strC cs).length ≤ 100000 ∧ Q (.dat (natsL (prof cs))) [.dat (chsD cs)]
/-- m_profile, slots ['l_some', 'l_found', 'l_symbol', 'l_level']; lends []; gives dat -/
def b_m_profile : AS := sSeq (sAsg (aFrz (oLst (aNil))) (agName 1))
  (sSeq (sFor (iAny (aVar 0)) (agTup (agCons (agName 2) (agCons (agName 3) (agNil)))) (sAsg (aOp bAddB (aVar 1) (aFrz (oRep (oLst (aCons (aVar 3) (aNil))) (aCall bLen (aCons (aDef c_l_escaped [] (rDat (aVar 2) (rDat (aVar 3) (rNil)))) (aNil)))))) (agName 1)))
  (sRet (aVar 1)))
theorem p_m_profile : Sat 1 4 b_m_profile c_m_profile := by
  intro ρ Q Z hl h
  obtain ⟨cs, rfl, hc, hlen, hq⟩ := h
  unfold b_m_profile
  simp [endsA]
  rw [kAny_itm (xs := ((cs.map fun p => (p.1, ((p.2 : Nat) : Int))).map runD)) rfl, q_kFor]
  refine loop_ofE (fun ds ρ => ∃ (dn us : Ch) (v2 v3 : Sv), ρ = [.dat (chsD cs), .dat (natsL (prof dn)), v2, v3] ∧ noV v2 ∧ noV v3 ∧ cs = dn ++ us ∧ ds = us.map (fun p => runD (p.1, ((p.2 : Nat) : Int)))) ?_ ?_ _ _ ⟨[], cs, .un, .un, rfl, trivial, trivial, rfl, by simp [Function.comp_def]⟩
  · rintro ρ ⟨dn, us, v2, v3, rfl, -, -, e1, e2⟩
    have : us = [] := by cases us with
      | nil => rfl
      | cons _ _ => cases e2
    subst this
    rw [List.append_nil] at e1
    subst e1
    simpa using hq
  · rintro d ds ρ E ⟨dn, us, v2, v3, rfl, n2, n3, e1, e2⟩ hE
    obtain ⟨p, us, rfl, rfl, rfl⟩ : ∃ p us', us = p :: us' ∧ d = runD (p.1, ((p.2 : Nat) : Int)) ∧ ds = us'.map (fun p => runD (p.1, ((p.2 : Nat) : Int))) := by
      cases us with
      | nil => cases e2
      | cons p us' => simp only [List.map_cons, List.cons.injEq] at e2; exact ⟨p, us', rfl, e2.1, e2.2⟩
    obtain ⟨c, k⟩ := p
    obtain ⟨sc, hk⟩ := hc (c, k) (by rw [e1]; simp)
    simp only at sc hk
    have pk : 2 ^ k ≤ 2 ^ 10 := Nat.pow_le_pow_right (by decide) hk
    have esc1 : escS k [c] = escC k c := by simp [escS]
    have hel : (strL (escC k c)).length = (escC k c).length := strL_len
    have el := escC_len (k := k) (c := c)
    have tot : (prof dn).length + (escC k c).length ≤ 100000 := by
      rw [prof_len]
      have : (strC cs).length = (strC dn).length + ((escC k c).length + (strC us).length) := by rw [e1, strC_app, strC_cons, List.length_append, List.length_append]
      omega
    simp [runD, okV_of n2, okV_of n3]
    refine ⟨[c], k, rfl, by simpa using sc, by simp; omega, by omega, ?_⟩
    rw [esc1]
    have e5 : List.replicate (escC k c).length (D.int (k : Nat)) = ((List.replicate (escC k c).length k).map fun n => ((n : Nat) : Int)).map .int := by simp
    have e7 : natsL (prof (dn ++ [(c, k)])) = .lst (((prof dn).map fun n : Nat => (n : Int)).map .int ++ List.replicate (escC k c).length (D.int (k : Nat))) := by
      rw [e5, prof_app]
      unfold natsL
      simp [prof]
    have fin := hE [.dat (chsD cs), .dat (natsL (prof (dn ++ [(c, k)]))), .dat (.str (sgn c)), .dat (.int (k : Nat))] ⟨dn ++ [(c, k)], us, _, _, rfl, trivial, trivial, by rw [e1]; simp, rfl⟩
    rw [e7] at fin
    simp [hel]
    refine ⟨by omega, by omega, by omega, ?_⟩
    show bAddB (.lst (((prof dn).map fun n : Nat => (n : Int)).map .int)) (D.lst (List.replicate (escC k c).length (D.int (k : Nat)))) _
    simp
    refine ⟨by omega, ?_⟩
    simpa [natsL] using fin
/-! ### a history with a bound for its levels -/
def kapP (m : Nat) (p : Nat × Nat) : Ch := if p.2 ≤ m then [p] else if p.1 = 92 then List.replicate (2 ^ (p.2 - m)) (92, m) else if p.1 = 34 then List.replicate (2 ^ (p.2 - m) - 1) (92, m) ++ [(34, m)] else [(p.1, m)]
theorem strC_rep {m : Nat} : ∀ {j : Nat}, strC (List.replicate j (92, m)) = List.replicate (j * 2 ^ m) 92
  | 0 => by simp [strC]
  | j + 1 => by
    rw [List.replicate_succ, strC_cons, strC_rep, show escC m 92 = List.replicate (2 ^ m) 92 by simp [escC], List.replicate_append_replicate]
    congr 1
    rw [Nat.add_mul]; omega
theorem kapP_str {m : Nat} {p : Nat × Nat} : strC (kapP m p) = escC p.2 p.1 := by
  obtain ⟨c, k⟩ := p
  unfold kapP
  simp only
  split
  · simp [strC]
  · rename_i h
    have e : 2 ^ (k - m) * 2 ^ m = 2 ^ k := by rw [← Nat.pow_add]; congr 1; omega
    have h1 : 1 ≤ 2 ^ (k - m) := pow_pos2 _
    have h2 : 1 ≤ 2 ^ m := pow_pos2 _
    split
    · rename_i hc
      subst hc
      rw [strC_rep, e]
      simp [escC]
    · rename_i hc
      split
      · rename_i hc2
        subst hc2
        rw [strC_app, strC_rep, show strC [(34, m)] = List.replicate (2 ^ m - 1) 92 ++ [34] by simp [strC, escC], ← List.append_assoc, List.replicate_append_replicate]
        have e2 : (2 ^ (k - m) - 1) * 2 ^ m + (2 ^ m - 1) = 2 ^ k - 1 := by
          rw [Nat.sub_mul, e]
          have : 1 * 2 ^ m ≤ 2 ^ (k - m) * 2 ^ m := Nat.mul_le_mul_right _ h1
          omega
        rw [e2]
        simp [escC]
      · rename_i hc2
        simp [strC, escC, hc, hc2]
theorem kapP_lev {m : Nat} {p : Nat × Nat} : ∀ q ∈ kapP m p, q.2 = min p.2 m := by
  intro q hq
  unfold kapP at hq
  split at hq
  · rename_i h
    rw [List.mem_singleton.mp hq]; omega
  · rename_i h
    split at hq
    · rw [(List.mem_replicate.mp hq).2]; simp only; omega
    · split at hq
      · rcases List.mem_append.mp hq with hq | hq
        · rw [(List.mem_replicate.mp hq).2]; simp only; omega
        · rw [List.mem_singleton.mp hq]; simp only; omega
      · rw [List.mem_singleton.mp hq]; simp only; omega
theorem prof_const {j : Nat} : ∀ {cs : Ch}, (∀ q ∈ cs, q.2 = j) → prof cs = List.replicate (strC cs).length j
  | [], _ => rfl
  | p :: r, h => by
    have hp := h p (by simp)
    rw [prof_cons, prof_const fun q hq => h q (by simp [hq]), strC_cons, hp, List.replicate_append_replicate, List.length_append]
theorem desc_const {j e : Nat} {b : Ch} : ∀ {a : Ch}, (∀ q ∈ a, q.2 = j) → j ≤ e → descC j b → descC e (a ++ b)
  | [], _, h, hb => desc_mono h hb
  | p :: a, ha, h, hb => by
    have hp := ha p (by simp)
    exact ⟨by omega, desc_const (fun q hq => ha q (by simp [hq])) (by omega) hb⟩
/-! ### stretches of levels -/
def consN (n x : Nat) : List (Nat × Nat) → List (Nat × Nat)
  | [] => [(n, x)]
  | (m, y) :: r => if x = y then (n + m, x) :: r else (n, x) :: (m, y) :: r
/-- (number, level) of the stretches of a list of levels -/
def rle : List Nat → List (Nat × Nat)
  | [] => []
  | x :: xs => consN 1 x (rle xs)
theorem consN_consN {n m x : Nat} {fs : List (Nat × Nat)} : consN n x (consN m x fs) = consN (n + m) x fs := by
  cases fs with
  | nil => simp [consN]
  | cons f r =>
    obtain ⟨k, y⟩ := f
    by_cases h : x = y
    · simp [consN, h, Nat.add_assoc]
    · simp [consN, h]
theorem rle_rep {x : Nat} {M : List Nat} : ∀ {n : Nat}, rle (List.replicate (n + 1) x ++ M) = consN (n + 1) x (rle M)
  | 0 => rfl
  | n + 1 => by
    rw [List.replicate_succ, List.cons_append, rle, rle_rep, consN_consN, Nat.add_comm]
def addS (fs : List (Nat × Nat)) (t x : Nat) : List (Nat × Nat) := match fs.getLast? with
  | some f => if f.2 = x then fs.dropLast ++ [(f.1 + t, x)] else fs ++ [(t, x)]
  | none => [(t, x)]
theorem cons_addS {y t x : Nat} : ∀ {fs : List (Nat × Nat)}, consN 1 y (addS fs t x) = addS (consN 1 y fs) t x
  | [] => by
    by_cases h : y = x
    · subst h; simp [addS, consN]
    · simp [addS, consN, h]
  | [(n, z)] => by
    by_cases h : z = x
    · subst h
      by_cases h2 : y = z
      · subst h2; simp [addS, consN]; omega
      · simp [addS, consN, h2]
    · by_cases h2 : y = z
      · subst h2; simp [addS, consN, h]
      · simp [addS, consN, h, h2]
  | (n, z) :: f :: r => by
    have e1 : addS ((n, z) :: f :: r) t x = (n, z) :: addS (f :: r) t x := by
      unfold addS
      rw [List.getLast?_cons_cons]
      cases hg : (f :: r).getLast? with
      | none => simp at hg
      | some g =>
        simp only
        split <;> simp
    have e2 : ∀ (q : Nat × Nat) , addS (q :: f :: r) t x = q :: addS (f :: r) t x := fun q => by
      unfold addS
      rw [List.getLast?_cons_cons]
      cases hg : (f :: r).getLast? with
      | none => simp at hg
      | some g =>
        simp only
        split <;> simp
    rw [e2 (n, z)]
    by_cases h : y = z
    · simp only [consN, h, if_true]
      rw [e2]
    · simp only [consN, h, if_false]
      have : addS ((1, y) :: (n, z) :: f :: r) t x = (1, y) :: (n, z) :: addS (f :: r) t x := by
        unfold addS
        rw [List.getLast?_cons_cons, List.getLast?_cons_cons]
        cases hg : (f :: r).getLast? with
        | none => simp at hg
        | some g =>
          simp only
          split <;> simp
      rw [this]
theorem rle_snoc {t x : Nat} : ∀ {L : List Nat}, rle (L ++ List.replicate (t + 1) x) = addS (rle L) (t + 1) x
  | [] => by
    have := rle_rep (x := x) (M := []) (n := t)
    rw [List.append_nil] at this
    rw [List.nil_append, this]
    rfl
  | y :: L => by
    rw [List.cons_append, rle, rle_snoc, cons_addS, rle]
theorem rle_len : ∀ {L : List Nat}, (rle L).length ≤ L.length
  | [] => Nat.le_refl _
  | x :: xs => by
    have ih := rle_len (L := xs)
    rw [rle, List.length_cons]
    cases hr : rle xs with
    | nil => simp [consN]
    | cons f r =>
      obtain ⟨m, y⟩ := f
      rw [hr, List.length_cons] at ih
      by_cases h : x = y
      · simp only [consN, h, if_true, List.length_cons]; omega
      · simp only [consN, h, if_false, List.length_cons]; omega
def stD (p : Nat × Nat) : D := .tup [.int (p.1 : Nat), .int (p.2 : Nat)]
theorem eqOk_sts {fs : List (Nat × Nat)} : (D.lst (fs.map stD)).eqOk := by
  have h1 : D.plL true (fs.map stD) = true := by
    induction fs with
    | nil => simp [D.plL]
    | cons t ts ih => simp [D.plL, D.pl, stD, ih]
  have h2 : PyData.canLayAll0 (D.pyL (fs.map stD)) = true := by
    clear h1
    induction fs with
    | nil => simp [D.pyL, PyData.canLayAll0]
    | cons t ts ih => simp [D.pyL, D.py, stD, PyData.canLayAll0, PyData.canLay0, ih]
  have h4 : D.depL (fs.map stD) ≤ 1 := by
    rw [depL_le]
    intro d hd
    obtain ⟨t, ht, rfl⟩ := List.mem_map.mp hd
    simp [stD, D.dep, D.depL]
  have h3 : (D.lst (fs.map stD)).py.depth ≤ 2 := Nat.le_trans depth_py (by rw [D.dep]; omega)
  refine ⟨by simp only [D.pl]; exact h1, ?_⟩
  simp only [SeqAt.shaped, Bool.and_eq_true, decide_eq_true_eq]
  exact ⟨by simp only [D.py, PyData.canLay0]; exact h2, by omega⟩
theorem eqv_stsN {fs : List (Nat × Nat)} : PyData.eqv (D.lst (fs.map stD)).py (D.lst []).py = fs.isEmpty := by
  cases fs <;> simp [D.py, D.pyL, PyData.eqv, PyData.eqvAll]
/-- the levels of stretches -/
def expS (S : List (Nat × Nat)) : List Nat := S.flatMap fun p => List.replicate p.1 p.2
theorem expS_cons {p : Nat × Nat} {S : List (Nat × Nat)} : expS (p :: S) = List.replicate p.1 p.2 ++ expS S := by simp [expS]
theorem expS_app {S T : List (Nat × Nat)} : expS (S ++ T) = expS S ++ expS T := by simp [expS]
def c_take : Ctr := fun ρ Q _ => ∃ (S : List (Nat × Nat)) (n : Nat), ρ = [.own true (S.map stD), .dat (.int (n : Nat))] ∧ (∀ p ∈ S, 1 ≤ p.1) ∧ n ≤ (expS S).length ∧ (expS S).length ≤ 10000000 ∧ ∀ S' : List (Nat × Nat), (∀ p ∈ S', 1 ≤ p.1) → expS S' = (expS S).drop n → Q (.own false ((rle ((expS S).take n)).map stD)) [.own true (S'.map stD), .dat (.int (n : Nat))]
/-- take, slots ['stretches', 'many', 'found', 'left', 'positions', 'level', 'taken']; lends ['stretches']; gives own -/
def b_take : AS := sSeq (sSetO (oLst (aNil)) 2)
  (sSeq (sAsg (aVar 1) (agName 3))
  (sSeq (sWhile (tCmpV bGt (vVar 3) (vC (.int 0))) (sSeq (sAsg (aOwnIx 0 (aC (.int 0))) (agTup (agCons (agName 4) (agCons (agName 5) (agNil)))))
  (sSeq (sAsg (aCall bMin (aCons (aVar 4) (aCons (aVar 3) (aNil)))) (agName 6))
  (sSeq (sPutO 0 (aTup (aCons (aOp bSub (aVar 4) (aVar 6)) (aCons (aVar 5) (aNil)))) (aC (.int 0)))
  (sSeq (sIf (tCmpV bEq (vVar 6) (vVar 4)) (sDrop (aPopAt 0 (aC (.int 0)))) (sNx))
  (sSeq (sAug 3 bSub (aVar 6))
  (sIf (aAnd (tCmpV bNe (vVar 2) (vLst (vNil))) (tCmpV bEq (vOp bIx (vOp bIx (vVar 2) (vUn bNeg (vC (.int 1)))) (vC (.int 1))) (vVar 5))) (sPutO 2 (aTup (aCons (aOp bAddB (aOp bIx (aOwnIx 2 (aUn bNeg (aC (.int 1)))) (aC (.int 0))) (aVar 6)) (aCons (aVar 5) (aNil)))) (aUn bNeg (aC (.int 1)))) (sAppO 2 (aTup (aCons (aVar 6) (aCons (aVar 5) (aNil))))))))))))
  (sRetV 2)))
theorem p_take : Sat 2 7 b_take c_take := by
  intro ρ Q Z hl h
  obtain ⟨S, n, rfl, hS, hn, hL, hq⟩ := h
  generalize hLS : expS S = L at hn hL hq
  unfold b_take
  simp [endsA]
  refine while_of (fun m ρ => ∃ (j : Nat) (S1 : List (Nat × Nat)) (v4 v5 v6 : Sv), j ≤ n ∧ m = n - j ∧ (∀ p ∈ S1, 1 ≤ p.1) ∧ expS S1 = L.drop j ∧ ρ = [.own true (S1.map stD), .dat (.int (n : Nat)), .own false ((rle (L.take j)).map stD), .dat (.int ((n - j : Nat) : Int)), v4, v5, v6] ∧ noV v4 ∧ noV v5 ∧ noV v6) n ⟨0, S, .un, .un, .un, Nat.zero_le _, rfl, hS, by simpa using hLS, by simp [rle], trivial, trivial, trivial⟩ ?_
  rintro m ρ X ⟨j, S1, v4, v5, v6, hj, rfl, hS1, hM0, rfl, n4, n5, n6⟩ hX
  by_cases hjn : j = n
  · subst hjn
    simp
    exact hq S1 hS1 hM0
  · have hlt : j < n := by omega
    have hne : L.drop j ≠ [] := by
      intro e
      have := congrArg List.length e
      rw [List.length_drop] at this
      simp at this
      omega
    obtain ⟨p, x, M, hr⟩ : ∃ p x M, S1 = (p + 1, x) :: M := by
      cases S1 with
      | nil => rw [← hM0] at hne; exact absurd rfl hne
      | cons q M =>
        have := hS1 q (by simp)
        exact ⟨q.1 - 1, q.2, M, by rw [show q.1 - 1 + 1 = q.1 by omega]⟩
    have hSM : ∀ q ∈ M, 1 ≤ q.1 := fun q hq => hS1 q (by rw [hr]; simp [hq])
    have hM : L.drop j = List.replicate (p + 1) x ++ expS M := by rw [← hM0, hr, expS_cons]
    have hdl : L.length - j = p + 1 + (expS M).length := by
      have := congrArg List.length hM
      rw [List.length_drop] at this
      simpa using this
    obtain ⟨t, ht⟩ : ∃ t, min (p + 1) (n - j) = t + 1 := ⟨min (p + 1) (n - j) - 1, by omega⟩
    have htp : t ≤ p := by omega
    have etake : L.take (j + (t + 1)) = L.take j ++ List.replicate (t + 1) x := by
      rw [List.take_add, hM, List.take_append_of_le_length (by simp; omega), List.take_replicate, Nat.min_eq_left (by omega)]
    have edrop : L.drop (j + (t + 1)) = List.replicate (p - t) x ++ expS M := by
      rw [← List.drop_drop, hM, List.drop_append_of_le_length (by simp; omega), List.drop_replicate]
      congr 2
      omega
    have erd : expS (if p = t then M else (p - t, x) :: M) = L.drop (j + (t + 1)) := by
      rw [edrop]
      by_cases h : p = t
      · rw [if_pos h, h, Nat.sub_self]; rfl
      · rw [if_neg h, expS_cons]
    have erp : ∀ q ∈ (if p = t then M else (p - t, x) :: M), 1 ≤ q.1 := fun q hq => by
      by_cases h : p = t
      · rw [if_pos h] at hq; exact hSM q hq
      · rw [if_neg h] at hq
        rcases List.mem_cons.mp hq with rfl | hq
        · simp only; omega
        · exact hSM q hq
    have ert : rle (L.take (j + (t + 1))) = addS (rle (L.take j)) (t + 1) x := by rw [etake, rle_snoc]
    have hfl := rle_len (L := L.take j)
    rw [List.length_take] at hfl
    have key := hX (n - (j + (t + 1))) _ (by omega) ⟨j + (t + 1), _, .dat (.int ((p + 1 : Nat) : Int)), .dat (.int (x : Nat)), .dat (.int ((t + 1 : Nat) : Int)), by omega, rfl, erp, erd, rfl, trivial, trivial, trivial⟩
    rw [ert] at key
    have hmin : (if ((n - j : Nat) : Int) < (p : Int) + 1 then ((n - j : Nat) : Int) else (p : Int) + 1) = (t : Int) + 1 := by
      split <;> omega
    have hsub : ((n - j : Nat) : Int) - ((t : Int) + 1) = ((n - (j + (t + 1)) : Nat) : Int) := by omega
    have hpos : (0 : Int) < ((n - j : Nat) : Int) := by omega
    have hpt : (((t : Int) + 1) = ((p : Int) + 1)) = (p = t) := by simp only [eq_iff_iff]; omega
    have hix : ixN (M.length + 1) 0 = some 0 := by simp [ixN]
    have hps : (p : Int) + 1 - ((t : Int) + 1) = ((p - t : Nat) : Int) := by omega
    generalize rle (L.take j) = fs at hfl key
    generalize ((n - j : Nat) : Int) = lf at hmin hsub hpos
    have okS := eqOk_sts (fs := fs)
    have evS := eqv_stsN (fs := fs)
    have tail : ∀ (S : List D), S = (if p = t then M else (p - t, x) :: M).map stD → X [.own true S, .dat (.int (n : Nat)), .own false ((addS fs (t + 1) x).map stD), .dat (.int ((n - (j + (t + 1)) : Nat) : Int)), .dat (.int ((p : Int) + 1)), .dat (.int (x : Nat)), .dat (.int ((t : Int) + 1))] := fun S hS => by
      subst hS
      simpa using key
    simp [hr, stD, okV_of n4, okV_of n5, okV_of n6, hpos, hmin, hsub, hpt, hix, hps]
    rcases List.eq_nil_or_concat fs with rfl | ⟨us, u, hu⟩
    · have ea : addS [] (t + 1) x = [(t + 1, x)] := rfl
      rw [ea] at tail
      by_cases hc : p = t
      · rw [if_pos hc] at tail ⊢
        simp [D.py, D.pyL, PyData.eqv, PyData.eqvAll]
        have := tail _ rfl
        simpa [stD] using this
      · rw [if_neg hc] at tail ⊢
        simp [D.py, D.pyL, PyData.eqv, PyData.eqvAll]
        have := tail _ rfl
        simpa [stD] using this
    · rw [List.concat_eq_append] at hu
      subst hu
      have hfl2 : us.length + 1 ≤ 10000000 := by simp at hfl; omega
      have ea : addS (us ++ [u]) (t + 1) x = if u.2 = x then us ++ [(u.1 + (t + 1), x)] else us ++ [u] ++ [(t + 1, x)] := by
        unfold addS
        simp
      rw [ea] at tail
      have hat : atI ((us ++ [u]).map stD) (-1) = some (.tup [.int (u.1 : Nat), .int (u.2 : Nat)]) := by rw [List.map_append]; exact atI_last
      have hat2 : atI (us.map stD ++ [stD u]) (-1) = some (.tup [.int (u.1 : Nat), .int (u.2 : Nat)]) := atI_last
      have hne2 : us ++ [u] ≠ [] := by simp
      have hul : (us ++ [u]).length = us.length + 1 := by simp
      have hset : ((us ++ [u]).map stD).set us.length (.tup [.int ((u.1 : Int) + ((t : Int) + 1)), .int (x : Nat)]) = (us ++ [(u.1 + (t + 1), x)]).map stD := by
        have := set_last (us := us.map stD) (u := stD u) (v := .tup [.int ((u.1 : Int) + ((t : Int) + 1)), .int (x : Nat)])
        rw [List.length_map] at this
        rw [List.map_append, List.map_cons, List.map_nil, this]
        simp [stD]
      by_cases hc : p = t
      all_goals
        first | rw [if_pos hc] at tail ⊢ | rw [if_neg hc] at tail ⊢
        refine ⟨.inl okS, .inr ⟨hne2, _, hat, ?_⟩⟩
        by_cases hx : u.2 = x
        · rw [if_pos hx] at tail
          have hxi : ((u.2 : Nat) : Int) = (x : Nat) := by omega
          simp [D.py, PyData.eqv]
          rw [if_pos hxi]
          refine ⟨_, hat2, ?_⟩
          simp
          refine ⟨us.length, ixN_last, ?_⟩
          have := tail _ rfl
          rw [List.map_append, List.map_cons, List.map_nil] at hset
          rw [hset]
          simpa [stD] using this
        · rw [if_neg hx] at tail
          have hxi : ¬ ((u.2 : Nat) : Int) = (x : Nat) := by omega
          simp [D.py, PyData.eqv]
          rw [if_neg hxi]
          have := tail _ rfl
          exact ⟨by omega, by simpa [stD] using this⟩
/-! ### groups and characters -/
def shG (q : Bool) : Ch → Prop
  | [] => False
  | [p] => p.1 = endN q
  | p :: p' :: r => p.1 = 92 ∧ shG q (p' :: r)
theorem rep_split {a b : Nat} {X Y : List Nat} (h : List.replicate a 92 ++ X = List.replicate b 92 ++ Y) (hab : a ≤ b) : X = List.replicate (b - a) 92 ++ Y := by
  have e : List.replicate b 92 = List.replicate a 92 ++ List.replicate (b - a) 92 := by rw [List.replicate_append_replicate]; congr 1; omega
  rw [e, List.append_assoc] at h
  exact List.append_cancel_left h
theorem rep_head {n : Nat} {X : List Nat} {x : Nat} {u : List Nat} (hx : x ≠ 92) (h : x :: u = List.replicate n 92 ++ X) : n = 0 ∧ x :: u = X := by
  cases n with
  | zero => exact ⟨rfl, h⟩
  | succ n =>
    rw [List.replicate_succ, List.cons_append] at h
    exact absurd (List.cons.inj h).1 hx
theorem split_g {q : Bool} : ∀ {cs : Ch} {z : Nat} {T : List Nat}, 1 ≤ z → (q = false → freeL T) → strC cs = grpN q z ++ T → ∃ d c2, cs = d ++ c2 ∧ strC d = grpN q z ∧ strC c2 = T ∧ shG q d
  | [], z, T, hz, hT, h => by
    have := congrArg List.length h
    unfold grpN at this
    cases q <;> simp [strC] at this
    omega
  | (s, k) :: cs, z, T, hz, hT, h => by
    have pk := pow_pos2 k
    rw [strC_cons] at h
    simp only at h
    by_cases h92 : s = 92
    · subst h92
      have e : escC k 92 = List.replicate (2 ^ k) 92 := by simp [escC]
      by_cases hlt : 2 ^ k < z
      · have e2 := grpN_cons (q := q) hlt
        rw [e, e2, List.append_assoc] at h
        obtain ⟨d, c2, q1, q2, q3, q4⟩ := split_g (q := q) (cs := cs) (z := z - 2 ^ k) (by omega) hT (List.append_cancel_left h)
        refine ⟨(92, k) :: d, c2, by rw [q1]; rfl, by rw [strC_cons, q2, e2]; simp only; rw [e], q3, ?_⟩
        cases d with
        | nil => exact q4.elim
        | cons p r => exact ⟨rfl, q4⟩
      · rw [e] at h
        cases q with
        | true =>
          rw [show grpN true z ++ T = List.replicate (z - 1) 92 ++ (34 :: T) by simp [grpN]] at h
          have := rep_split h.symm (by omega)
          have := (rep_head (by decide) this).1
          omega
        | false =>
          rw [show grpN false z = List.replicate z 92 by simp [grpN]] at h
          have h2 := rep_split h.symm (by omega)
          cases hm : 2 ^ k - z with
          | zero =>
            rw [hm] at h2
            refine ⟨[(92, k)], cs, rfl, ?_, h2.symm, rfl⟩
            rw [show strC [(92, k)] = escC k 92 by simp [strC], e, show 2 ^ k = z by omega]
            simp [grpN]
          | succ m =>
            rw [hm, List.replicate_succ, List.cons_append] at h2
            exact absurd rfl ((hT rfl) _ _ h2).1
    · by_cases h34 : s = 34
      · subst h34
        have e : escC k 34 = List.replicate (2 ^ k - 1) 92 ++ [34] := by simp [escC]
        rw [e, List.append_assoc] at h
        cases q with
        | true =>
          rw [show grpN true z ++ T = List.replicate (z - 1) 92 ++ (34 :: T) by simp [grpN]] at h
          have fin : 2 ^ k - 1 = z - 1 → 34 :: strC cs = 34 :: T → ∃ d c2, (34, k) :: cs = d ++ c2 ∧ strC d = grpN true z ∧ strC c2 = T ∧ shG true d := fun e1 e2 =>
            ⟨[(34, k)], cs, rfl, by rw [show strC [(34, k)] = escC k 34 by simp [strC], e, e1]; simp [grpN], (List.cons.inj e2).2, rfl⟩
          rcases Nat.le_total (2 ^ k - 1) (z - 1) with hle | hle
          · obtain ⟨a, b⟩ := rep_head (by decide) (rep_split h hle)
            exact fin (by omega) b
          · obtain ⟨a, b⟩ := rep_head (by decide) (rep_split h.symm hle)
            exact fin (by omega) b.symm
        | false =>
          exfalso
          rw [show grpN false z = List.replicate z 92 by simp [grpN]] at h
          rcases Nat.le_total (2 ^ k - 1) z with hle | hle
          · obtain ⟨a, b⟩ := rep_head (by decide) (rep_split h hle)
            exact ((hT rfl) _ _ b.symm).2 rfl
          · have h2 := rep_split h.symm hle
            cases hm : 2 ^ k - 1 - z with
            | zero =>
              rw [hm] at h2
              exact ((hT rfl) _ _ h2).2 rfl
            | succ m =>
              rw [hm, List.replicate_succ, List.cons_append] at h2
              exact ((hT rfl) _ _ h2).1 rfl
      · exfalso
        have e : escC k s = [s] := by simp [escC, h92, h34]
        rw [e] at h
        cases q with
        | true =>
          rw [show grpN true z ++ T = List.replicate (z - 1) 92 ++ (34 :: T) by simp [grpN]] at h
          obtain ⟨a, b⟩ := rep_head h92 h
          exact h34 (List.cons.inj b).1
        | false =>
          rw [show grpN false z = List.replicate z 92 by simp [grpN]] at h
          have := (rep_head h92 h).1
          omega
/-- stretches of levels as parts of a group -/
def prtS (S : List (Nat × Nat)) : List (Nat × Int) := S.map fun p => (p.2, ((p.1 / 2 ^ p.2 : Nat) : Int))
theorem esc_len92 {k : Nat} : (escC k 92).length = 2 ^ k := by simp [escC]
theorem esc_lenE {k : Nat} {q : Bool} : (escC k (endN q)).length = 2 ^ k := by
  have := pow_pos2 k
  cases q <;> simp [escC, endN]
  omega
theorem chP_parts {q : Bool} : ∀ {d : Ch}, shG q d → chP q (prtS (rle (prof d))) = d ∧ (∀ p ∈ prtS (rle (prof d)), 1 ≤ p.2)
  | [], h => h.elim
  | [(s, k)], h => by
    have hs : s = endN q := h
    subst hs
    have pk := pow_pos2 k
    have e : prof [(endN q, k)] = List.replicate (2 ^ k - 1 + 1) k ++ [] := by
      rw [List.append_nil, show 2 ^ k - 1 + 1 = 2 ^ k by omega, ← esc_lenE (q := q)]
      simp [prof]
    have hd : (2 ^ k - 1 + 1) / 2 ^ k = 1 := by rw [show 2 ^ k - 1 + 1 = 2 ^ k by omega]; exact Nat.div_self (by omega)
    rw [e, rle_rep]
    simp only [rle, consN, prtS, List.map_cons, List.map_nil, hd]
    cases q <;> simp [chP, endN]
  | (s, k) :: p' :: r, h => by
    have hs : s = 92 := h.1
    subst hs
    have pk := pow_pos2 k
    obtain ⟨i1, i2⟩ := chP_parts (q := q) (d := p' :: r) h.2
    have e : prof ((92, k) :: p' :: r) = List.replicate (2 ^ k - 1 + 1) k ++ prof (p' :: r) := by
      rw [prof_cons, show 2 ^ k - 1 + 1 = 2 ^ k by omega]
      simp only
      rw [esc_len92]
    rw [e, rle_rep]
    cases hR : rle (prof (p' :: r)) with
    | nil => rw [hR] at i1; simp [prtS, chP] at i1
    | cons x R =>
      obtain ⟨m, y⟩ := x
      rw [hR] at i1 i2
      have hm := i2 (y, ((m / 2 ^ y : Nat) : Int)) (by simp [prtS])
      simp only at hm
      rw [show consN (2 ^ k - 1 + 1) k ((m, y) :: R) = if k = y then (2 ^ k - 1 + 1 + m, k) :: R else (2 ^ k - 1 + 1, k) :: (m, y) :: R from rfl]
      by_cases hk : k = y
      · subst hk
        rw [if_pos rfl, show 2 ^ k - 1 + 1 = 2 ^ k by omega]
        have hd : (2 ^ k + m) / 2 ^ k = m / 2 ^ k + 1 := by rw [Nat.add_comm, Nat.add_div_right _ (by omega)]
        simp only [prtS, List.map_cons, hd] at i1 i2 ⊢
        rw [chP] at i1 ⊢
        generalize m / 2 ^ k = n at hm i1 i2 ⊢
        refine ⟨?_, fun p hp => ?_⟩
        · by_cases hq : (q && (List.map (fun p : Nat × Nat => (p.2, ((p.1 / 2 ^ p.2 : Nat) : Int))) R).isEmpty) = true
          · rw [if_pos hq] at i1 ⊢
            rw [← i1, show (((n + 1 : Nat) : Int) - 1).toNat = (((n : Nat) : Int) - 1).toNat + 1 by omega, List.replicate_succ]
            rfl
          · rw [if_neg hq] at i1 ⊢
            rw [← i1, show ((n + 1 : Nat) : Int).toNat = ((n : Nat) : Int).toNat + 1 by omega, List.replicate_succ]
            rfl
        · rcases List.mem_cons.mp hp with rfl | hp
          · simp only; omega
          · exact i2 p (List.mem_cons_of_mem _ hp)
      · rw [if_neg hk]
        have hd : (2 ^ k - 1 + 1) / 2 ^ k = 1 := by rw [show 2 ^ k - 1 + 1 = 2 ^ k by omega]; exact Nat.div_self (by omega)
        simp only [prtS, List.map_cons, hd] at i1 i2 ⊢
        rw [chP]
        refine ⟨?_, fun p hp => ?_⟩
        · simp only [List.isEmpty_cons, Bool.and_false, Bool.false_eq_true, if_false]
          rw [i1]
          rfl
        · rcases List.mem_cons.mp hp with rfl | hp
          · simp
          · exact i2 p hp
/-! ### blocks_with, by characters -/
theorem addB_last {us : Bx} {c k : Nat} {m n : Int} (h : 0 < n) : addB (us ++ [(c, k, m)]) c k n = us ++ [(c, k, m + n)] := by
  unfold addB
  rw [if_pos h]
  simp
theorem addB_add {bs : Bx} {c k : Nat} {n m : Int} (hn : 0 < n) (hm : 0 < m) : addB (addB bs c k n) c k m = addB bs c k (n + m) := by
  rcases addB_cases (bs := bs) (c := c) (k := k) hn with ⟨e, h⟩ | ⟨us, x, rfl, e⟩
  · rw [e, addB_last hm]
    rcases addB_cases (bs := bs) (c := c) (k := k) (n := n + m) (by omega) with ⟨e2, -⟩ | ⟨us, x, rfl, -⟩
    · rw [e2]
    · exact absurd ⟨rfl, rfl⟩ (h (c, k, x) (by simp))
  · rw [e, addB_last hm, addB_last (by omega), Int.add_assoc]
theorem blocksC_app {c1 c2 : Ch} : blocksC (c1 ++ c2) = c2.foldl (fun bs p => addB bs p.1 p.2 1) (blocksC c1) := by
  unfold blocksC
  rw [List.foldl_append]
theorem foldl_rep {c k : Nat} {bs : Bx} : ∀ n : Nat, (List.replicate n (c, k)).foldl (fun bs p => addB bs p.1 p.2 1) bs = addB bs c k (n : Nat)
  | 0 => (addB_zero (by simp)).symm
  | n + 1 => by
    rw [List.replicate_succ', List.foldl_append, foldl_rep n]
    simp only [List.foldl_cons, List.foldl_nil]
    by_cases h : n = 0
    · subst h
      rw [addB_zero (n := ((0 : Nat) : Int)) (by simp)]
      rfl
    · rw [addB_add (by omega) (by omega)]
      rfl
theorem blocksC_rep2 {c1 : Ch} {c k n : Nat} : blocksC (c1 ++ List.replicate n (c, k)) = addB (blocksC c1) c k (n : Nat) := by rw [blocksC_app, foldl_rep]
theorem blocksC_parts {q : Bool} : ∀ {ps : List (Nat × Int)} {c1 : Ch}, (∀ p ∈ ps, 1 ≤ p.2) → addPt q ps (blocksC c1) = blocksC (c1 ++ chP q ps)
  | [], c1, _ => by simp [addPt, chP]
  | (k, n) :: r, c1, hp => by
    have hn := hp (k, n) (by simp)
    simp only at hn
    rw [addPt, chP]
    cases hq : (q && r.isEmpty) with
    | true =>
      have hr : r = [] := by
        rw [Bool.and_eq_true] at hq
        exact List.isEmpty_iff.mp hq.2
      subst hr
      simp only [addPt, if_true, q01]
      rw [← List.append_assoc, show [((34 : Nat), k)] = List.replicate 1 (34, k) from rfl, blocksC_rep2, blocksC_rep2, show (((n - 1).toNat : Nat) : Int) = n - 1 by omega]
      rfl
    | false =>
      simp only [q01, Bool.false_eq_true, if_false]
      have e : addB (addB (blocksC c1) 92 k (n - 0)) 34 k 0 = blocksC (c1 ++ List.replicate n.toNat (92, k)) := by
        rw [addB_zero (by omega), blocksC_rep2, show ((n.toNat : Nat) : Int) = n - 0 by omega]
      rw [e, blocksC_parts fun p h => hp p (by simp [h]), List.append_assoc]
/-- the blocks of the stretches of one sign -/
def addF (c : Nat) (F : List (Nat × Nat)) (c1 : Ch) : Ch := c1 ++ F.flatMap fun f => List.replicate f.1 (c, f.2)
theorem exp_consN {n x : Nat} : ∀ {fs : List (Nat × Nat)}, expS (consN n x fs) = List.replicate n x ++ expS fs
  | [] => rfl
  | (m, y) :: r => by
    by_cases h : x = y
    · subst h
      simp only [consN, if_true]
      rw [expS_cons, expS_cons]
      simp only
      rw [← List.append_assoc, List.replicate_append_replicate]
    · simp only [consN, h, if_false]
      rw [expS_cons]
theorem exp_rle : ∀ {L : List Nat}, expS (rle L) = L
  | [] => rfl
  | x :: L => by
    rw [rle, exp_consN, exp_rle]
    rfl
theorem rep_map {c : Nat} {F : List (Nat × Nat)} : (F.flatMap fun f => List.replicate f.1 (c, f.2)) = (expS F).map fun k => (c, k) := by
  induction F with
  | nil => rfl
  | cons f r ih => rw [List.flatMap_cons, ih, expS_cons, List.map_append, List.map_replicate]
theorem split_p {c : Nat} : ∀ {m : Nat} {cs : Ch} {T : List Nat}, (c = 92 → m ≤ 1 ∧ freeL T) → strC cs = List.replicate m c ++ T → ∃ d c2, cs = d ++ c2 ∧ d.length = m ∧ strC c2 = T ∧ (prof d).map (fun k => (c, k)) = d ∧ (prof d).length = m
  | 0, cs, T, _, h => ⟨[], cs, rfl, rfl, by simpa using h, rfl, rfl⟩
  | m + 1, [], T, _, h => by simp [strC, List.replicate_succ] at h
  | m + 1, (s, k) :: cs, T, hT, h => by
    rw [strC_cons, List.replicate_succ, List.cons_append] at h
    simp only at h
    have pk := pow_pos2 k
    have main : escC k s = [s] → ∃ d c2, (s, k) :: cs = d ++ c2 ∧ d.length = m + 1 ∧ strC c2 = T ∧ (prof d).map (fun k => (c, k)) = d ∧ (prof d).length = m + 1 := fun e => by
      rw [e] at h
      have h1 := List.cons.inj h
      obtain ⟨d, c2, q1, q2, q3, q4, q5⟩ := split_p (c := c) (m := m) (cs := cs) (T := T) (fun hc => ⟨by have := (hT hc).1; omega, (hT hc).2⟩) h1.2
      have ep : prof ((s, k) :: d) = k :: prof d := by rw [prof_cons]; simp only; rw [e]; rfl
      refine ⟨(s, k) :: d, c2, by rw [q1]; rfl, by simp [q2], q3, ?_, by rw [ep]; simp [q5]⟩
      rw [ep, List.map_cons, q4, h1.1]
    have bad : ∀ (n : Nat) (X : List Nat), List.replicate (n + 1) 92 ++ X = c :: (List.replicate m c ++ T) → (∀ u, X ≠ 34 :: u → True) → c = 92 ∧ List.replicate n 92 ++ X = T := fun n X h2 _ => by
      rw [List.replicate_succ, List.cons_append] at h2
      have h1 := List.cons.inj h2
      have hm : m = 0 := by have := (hT h1.1.symm).1; omega
      subst hm
      exact ⟨h1.1.symm, by simpa using h1.2⟩
    by_cases h92 : s = 92
    · subst h92
      have e : escC k 92 = List.replicate (2 ^ k - 1 + 1) 92 := by rw [show 2 ^ k - 1 + 1 = 2 ^ k by omega]; simp [escC]
      by_cases hk : 2 ^ k = 1
      · exact main (by rw [e, hk]; rfl)
      · rw [e] at h
        obtain ⟨hc, h2⟩ := bad _ _ h fun _ _ => trivial
        obtain ⟨j, hj⟩ : ∃ j, 2 ^ k - 1 = j + 1 := ⟨2 ^ k - 2, by omega⟩
        rw [hj, List.replicate_succ, List.cons_append] at h2
        exact absurd rfl ((hT hc).2 _ _ h2.symm).1
    · by_cases h34 : s = 34
      · subst h34
        have e : escC k 34 = List.replicate (2 ^ k - 1) 92 ++ [34] := by simp [escC]
        by_cases hk : 2 ^ k = 1
        · exact main (by rw [e, hk]; rfl)
        · obtain ⟨j, hj⟩ : ∃ j, 2 ^ k - 1 = j + 1 := ⟨2 ^ k - 2, by omega⟩
          rw [e, hj, List.append_assoc] at h
          obtain ⟨hc, h2⟩ := bad _ _ h fun _ _ => trivial
          cases j with
          | zero => exact absurd rfl ((hT hc).2 _ _ h2.symm).2
          | succ j =>
            rw [List.replicate_succ, List.cons_append] at h2
            exact absurd rfl ((hT hc).2 _ _ h2.symm).1
      · exact main (by simp [escC, h92, h34])
/-! ### blocks_with: its answer is the history with these levels -/
theorem q_bInT {neg : Bool} {s : Str} {ys : List D} {Q : D → Prop} : bIn neg (.str s) (.tup ys) Q = (D.flat (.str s) = true ∧ ys.all D.flat = true ∧ Q (.bl (if neg then !(ys.any fun y => D.eqF y (.str s)) else ys.any fun y => D.eqF y (.str s)))) := rfl
@[simp] theorem ne_l_m : (("least" : Str) = "most") = False := eq_false (by decide +kernel)
@[simp] theorem nb_l_m : (("least" : Str) == "most") = false := by decide +kernel
@[simp] theorem ne_l_s : (("least" : Str) = "start") = False := eq_false (by decide +kernel)
@[simp] theorem nb_l_s : (("least" : Str) == "start") = false := by decide +kernel
@[simp] theorem ne_l_i : (("least" : Str) = "inside") = False := eq_false (by decide +kernel)
@[simp] theorem nb_l_i : (("least" : Str) == "inside") = false := by decide +kernel
@[simp] theorem ne_m_l : (("most" : Str) = "least") = False := eq_false (by decide +kernel)
@[simp] theorem nb_m_l : (("most" : Str) == "least") = false := by decide +kernel
@[simp] theorem ne_m_s : (("most" : Str) = "start") = False := eq_false (by decide +kernel)
@[simp] theorem nb_m_s : (("most" : Str) == "start") = false := by decide +kernel
@[simp] theorem ne_m_i : (("most" : Str) = "inside") = False := eq_false (by decide +kernel)
@[simp] theorem nb_m_i : (("most" : Str) == "inside") = false := by decide +kernel
@[simp] theorem ne_s_l : (("start" : Str) = "least") = False := eq_false (by decide +kernel)
@[simp] theorem nb_s_l : (("start" : Str) == "least") = false := by decide +kernel
@[simp] theorem ne_s_m : (("start" : Str) = "most") = False := eq_false (by decide +kernel)
@[simp] theorem nb_s_m : (("start" : Str) == "most") = false := by decide +kernel
@[simp] theorem ne_s_i : (("start" : Str) = "inside") = False := eq_false (by decide +kernel)
@[simp] theorem nb_s_i : (("start" : Str) == "inside") = false := by decide +kernel
@[simp] theorem ne_i_l : (("inside" : Str) = "least") = False := eq_false (by decide +kernel)
@[simp] theorem nb_i_l : (("inside" : Str) == "least") = false := by decide +kernel
@[simp] theorem ne_i_m : (("inside" : Str) = "most") = False := eq_false (by decide +kernel)
@[simp] theorem nb_i_m : (("inside" : Str) == "most") = false := by decide +kernel
@[simp] theorem ne_i_s : (("inside" : Str) = "start") = False := eq_false (by decide +kernel)
@[simp] theorem nb_i_s : (("inside" : Str) == "start") = false := by decide +kernel
theorem special_in {c : Nat} (h : symC c) : (([D.str (Str.ofString "\\"), D.str (Str.ofString "\"")] : List D).any fun y => D.eqF y (.str (sgn c))) = decide (c = 92 ∨ c = 34) := by
  simp only [List.any_cons, List.any_nil, Bool.or_false, D.eqF, o92, o34]
  rw [Bool.eq_iff_iff]
  simp [beq_sgn]
  constructor <;> rintro (h | h) <;> simp [h]
theorem rle_mem : ∀ {M : List Nat}, ∀ f ∈ rle M, 1 ≤ f.1 ∧ f.2 ∈ M
  | [], f, h => by cases h
  | x :: xs, f, h => by
    rw [rle] at h
    have ih := rle_mem (M := xs)
    cases hr : rle xs with
    | nil =>
      rw [hr] at h
      rw [List.mem_singleton.mp h]
      simp
    | cons g r =>
      rw [hr] at h ih
      obtain ⟨m, y⟩ := g
      have hy := ih (m, y) (by simp)
      by_cases hx : x = y
      · rw [consN, if_pos hx] at h
        rcases List.mem_cons.mp h with rfl | h
        · simp
        · have := ih f (by simp [h]); exact ⟨this.1, by simp [this.2]⟩
      · rw [consN, if_neg hx] at h
        rcases List.mem_cons.mp h with rfl | h
        · simp
        · have := ih f h; exact ⟨this.1, by simp [this.2]⟩
theorem adj_head {p : Nat × Int × Int} {r : Pc} (h : Adj92 (p :: r)) (hp : ∀ x ∈ r, 1 ≤ x.2.2) : (p.1 = 92 → p.2.2 = 1 ∧ freeL (r.flatMap pieceC)) ∧ Adj92 r := by
  cases r with
  | nil => exact ⟨fun h1 => ⟨h h1, fun c r e => by cases e⟩, trivial⟩
  | cons q r => exact ⟨fun h1 => ⟨h.2.1 h1, pieceC_free (fun x hx => by obtain rfl := Option.some.inj hx; exact h.1 h1) hp⟩, h.2.2⟩
theorem grpN_len {q : Bool} {z : Nat} (h : 1 ≤ z) : (grpN q z).length = z := by
  unfold grpN
  cases q <;> simp
  omega
def c_blocks_with : Ctr := fun ρ Q _ => ∃ (ps : Pc) (S : List (Nat × Nat)) (cs : Ch), ρ = [.dat (.lst (ps.map pieD)), .dat (.lst (S.map stD))] ∧ Adj92 ps ∧ (∀ p ∈ ps, symC p.1 ∧ 1 ≤ p.2.1 ∧ 1 ≤ p.2.2) ∧ ps.flatMap pieceC = strC cs ∧ (∀ p ∈ S, 1 ≤ p.1) ∧ expS S = prof cs ∧ ChOk cs ∧ (strC cs).length ≤ 1000 ∧ Q (.own false ((blocksC cs).map blkD)) [.dat (.lst (ps.map pieD)), .dat (.lst (S.map stD))]
/-- blocks_with, slots ['pieces', 'stretches', 'blocks', 'left', 'symbol', 'size', 'many', 'positions', 'level', 'step', 'parts']; lends []; gives own -/
def b_blocks_with : AS := sSeq (sSetO (oLst (aNil)) 2)
  (sSeq (sSetO (oListA (aCons (aVar 1) (aNil))) 3)
  (sSeq (sFor (iAny (aVar 0)) (agTup (agCons (agName 4) (agCons (agName 5) (agCons (agName 6) (agNil))))) (sSeq (sIf (aOr (tCmpV (bIn true) (vVar 4) (vC (.tup [.str "\\", .str "\""]))) (tCmpV bEq (vVar 5) (vC (.int 1)))) (sSeq (sFor (iAny (aDef c_take [] (rIo 3 (rDat (aVar 6) (rNil))))) (agTup (agCons (agName 7) (agCons (agName 8) (agNil)))) (sDrop (aDef c_add_block [] (rIo 2 (rDat (aVar 4) (rDat (aVar 8) (rDat (aVar 7) (rNil))))))))
  ((fun D ρ => D.ct ρ))) (sNx))
  (sFor (iRange1 (aCons (aVar 6) (aNil))) (agName 9) (sSeq (sAsg (aFrz (oLc (iAny (aDef c_take [] (rIo 3 (rDat (aVar 5) (rNil))))) (agTup (agCons (agName 7) (agCons (agName 8) (agNil)))) (aYes) (aTup (aCons (aVar 8) (aCons (aOp bDiv (aVar 7) (aDef c_power_of_two [] (rDat (aVar 8) (rNil)))) (aNil)))) [7, 8])) (agName 10))
  (sDrop (aDef c_add_parts [] (rIo 2 (rDat (aVar 10) (rDat (aOp bEq (aVar 4) (aC (.str "\""))) (rNil))))))))))
  (sRetV 2)))
theorem p_blocks_with : Sat 2 11 b_blocks_with c_blocks_with := by
  intro ρ Q Z hl h
  obtain ⟨ps, S, cs, rfl, hadj, hps, htx, hS, hlv, hok, hlen, hq⟩ := h
  unfold b_blocks_with
  have hcl := strC_len (cs := cs)
  simp [endsA]
  refine loop_of (fun ds ρ' => ∃ (rest : Pc) (c1 c2 : Ch) (S2 : List (Nat × Nat)) (x4 x5 x6 x7 x8 x9 x10 : Sv), ds = rest.map pieD ∧ Adj92 rest ∧ (∀ p ∈ rest, symC p.1 ∧ 1 ≤ p.2.1 ∧ 1 ≤ p.2.2) ∧ cs = c1 ++ c2 ∧ rest.flatMap pieceC = strC c2 ∧ (∀ p ∈ S2, 1 ≤ p.1) ∧ expS S2 = prof c2 ∧ ρ' = [.dat (.lst (ps.map pieD)), .dat (.lst (S.map stD)), .own false ((blocksC c1).map blkD), .own false (S2.map stD), x4, x5, x6, x7, x8, x9, x10] ∧ noV x4 ∧ noV x5 ∧ noV x6 ∧ noV x7 ∧ noV x8 ∧ noV x9 ∧ noV x10) ?_ ?_ _ _ ⟨ps, [], cs, S, .un, .un, .un, .un, .un, .un, .un, rfl, hadj, hps, rfl, htx, hS, hlv, rfl, trivial, trivial, trivial, trivial, trivial, trivial, trivial⟩
  · rintro ρ' ⟨rest, c1, c2, S2, x4, x5, x6, x7, x8, x9, x10, h1, -, -, h3, h4, -, -, rfl, -⟩
    cases rest with
    | cons => cases h1
    | nil =>
      have : c2 = [] := by
        have := strC_len (cs := c2)
        rw [← h4] at this
        exact List.length_eq_zero_iff.mp (Nat.le_zero.mp this)
      subst this
      rw [List.append_nil] at h3
      subst h3
      simpa using hq
  · rintro d ds ρ' X ⟨rest, c1, c2, S2, x4, x5, x6, x7, x8, x9, x10, h1, hadj, hps, h3, h4, h5, h6, rfl, n4, n5, n6, n7, n8, n9, n10⟩ hX
    cases rest with
    | nil => cases h1
    | cons p rest =>
      obtain ⟨rfl, rfl⟩ : d = pieD p ∧ ds = rest.map pieD := by simpa using h1
      obtain ⟨a1, a2⟩ := adj_head hadj fun x hx => (hps x (by simp [hx])).2.2
      obtain ⟨hcs, hz, hm⟩ := hps p (by simp)
      obtain ⟨c, z, m⟩ := p
      simp only at a1 hcs hz hm
      obtain ⟨z, rfl⟩ : ∃ z' : Nat, z = (z' : Int) := ⟨z.toNat, by omega⟩
      obtain ⟨m, rfl⟩ : ∃ m' : Nat, m = (m' : Int) := ⟨m.toNat, by omega⟩
      have hpr : ∀ x ∈ rest, symC x.1 ∧ 1 ≤ x.2.1 ∧ 1 ≤ x.2.2 := fun x hx => hps x (by simp [hx])
      rw [List.flatMap_cons] at h4
      generalize hT : rest.flatMap pieceC = T at h4 a1
      have l2 : (strC c2).length ≤ 1000 := by rw [h3, strC_app, List.length_append] at hlen; omega
      have lp2 : (prof c2).length ≤ 1000 := by rw [prof_len]; exact l2
      have ok1 : ∀ {a b : Ch}, cs = a ++ b → ChOk a := fun {a b} e => ⟨fun p hp => hok.sy p (by rw [e]; simp [hp]), fun p hp => hok.lv p (by rw [e]; simp [hp])⟩
      have bin : ∀ {a b : Ch}, cs = a ++ b → BInv (blocksC a) ∧ (blocksC a).length ≤ 1000 := fun {a b} e => by
        have la : a.length ≤ 1000 := by have : a.length ≤ cs.length := by rw [e]; simp
                                        omega
        obtain ⟨-, q2, q3, -⟩ := blocksC_ok (cs := a) rfl (by omega) (ok1 e)
        exact ⟨q2, by omega⟩
      have hsp2 := special_in hcs
      simp only [pieD]
      by_cases hone : (c ≠ 92 ∧ c ≠ 34) ∨ z = 1
      · have etx : pieceC (c, (z : Int), (m : Int)) = List.replicate m c := by
          unfold pieceC
          simp only
          by_cases h92 : c = 92
          · have hz1 : z = 1 := by rcases hone with q | q; exact absurd h92 q.1; exact q
            have hm1 := (a1 h92).1
            rw [if_pos h92, hz1, h92, show m = 1 by omega]
            rfl
          · rw [if_neg h92, if_pos (by rcases hone with q | q; exact .inl q.2; exact .inr (by omega))]
            simp
        rw [etx] at h4
        obtain ⟨d, c3, e1, e2, e3, e4, e5⟩ := split_p (fun hc => ⟨by have := (a1 hc).1; omega, (a1 hc).2⟩) h4.symm
        subst e1
        have key : ∀ x7 x8 S3, noV x7 → noV x8 → (∀ p ∈ S3, 1 ≤ p.1) → expS S3 = prof c3 → X [.dat (.lst (ps.map pieD)), .dat (.lst (S.map stD)), .own false ((blocksC (c1 ++ d)).map blkD), .own false (S3.map stD), .dat (.str (sgn c)), .dat (.int (z : Nat)), .dat (.int (m : Nat)), x7, x8, x9, x10] := fun x7 x8 S3 m7 m8 k1 k2 =>
          hX _ ⟨rest, c1 ++ d, c3, S3, _, _, _, x7, x8, x9, x10, rfl, a2, hpr, by rw [h3, List.append_assoc], by rw [hT, e3], k1, k2, rfl, trivial, trivial, trivial, m7, m8, n9, n10⟩
        obtain ⟨b1, b2⟩ := bin h3
        rw [prof_app] at h6 lp2
        have t1 : (expS S2).take m = prof d := by rw [h6, List.take_append_of_le_length (by omega), List.take_of_length_le (by omega)]
        have t2 : (expS S2).drop m = prof c3 := by rw [h6, ← e5, List.drop_left]
        have hgl := rle_len (L := prof d)
        have hlv2 : ∀ f ∈ rle (prof d), f.2 ≤ 200 := fun f hf2 => by
          have h0 := rle_mem f hf2
          obtain ⟨q, hq1, hq2⟩ := List.mem_flatMap.mp h0.2
          have := hok.lv q (by rw [h3]; simp [hq1])
          have := (List.mem_replicate.mp hq2).2
          omega
        have ef : addF c (rle (prof d)) c1 = c1 ++ d := by rw [addF, rep_map, exp_rle, e4]
        rw [← ef] at key
        generalize hR : rle (prof d) = R at hgl hlv2 key
        have hdl : m ≤ 1000 := by rw [List.length_append] at lp2; omega
        have core : ∀ (E : AEnds), E.ct = X → sSeq (sFor (iAny (aDef c_take [] (rIo 3 (rDat (aVar 6) rNil)))) (agTup (agCons (agName 7) (agCons (agName 8) agNil))) (sDrop (aDef c_add_block [] (rIo 2 (rDat (aVar 4) (rDat (aVar 8) (rDat (aVar 7) rNil))))))) (fun D ρ => D.ct ρ) E [.dat (.lst (ps.map pieD)), .dat (.lst (S.map stD)), .own false ((blocksC c1).map blkD), .own false (S2.map stD), .dat (.str (sgn c)), .dat (.int (z : Nat)), .dat (.int (m : Nat)), x7, x8, x9, x10] := by
          intro E hE
          rw [q_sSeq]
          simp [-q_sSeq]
          refine ⟨S2, m, rfl, h5, by rw [h6, List.length_append]; omega, by rw [h6]; omega, fun S3 k1 k2 => ?_⟩
          rw [t1, hR]
          rw [t2] at k2
          simp
          refine loop_of (fun ds ρ' => ∃ (F1 F2 : List (Nat × Nat)) (x7 x8 : Sv), R = F1 ++ F2 ∧ ds = F2.map stD ∧ BInv (blocksC (addF c F1 c1)) ∧ (blocksC (addF c F1 c1)).length ≤ 1000 + F1.length ∧ ρ' = [.dat (.lst (ps.map pieD)), .dat (.lst (S.map stD)), .own false ((blocksC (addF c F1 c1)).map blkD), .own false (S3.map stD), .dat (.str (sgn c)), .dat (.int (z : Nat)), .dat (.int (m : Nat)), x7, x8, x9, x10] ∧ noV x7 ∧ noV x8) ?_ ?_ _ _ ⟨[], R, x7, x8, rfl, rfl, by simpa [addF] using b1, by simpa [addF] using b2, by simp [addF], n7, n8⟩
          · rintro ρ' ⟨F1, F2, x7, x8, g1, g2, g3, g4, rfl, m7, m8⟩
            have e9 : F2 = [] := by simpa using g2
            subst e9
            have e10 : R = F1 := by simpa using g1
            subst e10
            show E.ct _
            rw [hE]
            exact key x7 x8 S3 m7 m8 k1 k2
          · rintro d ds ρ' Y ⟨F1, F2, x7, x8, g1, g2, g3, g4, rfl, m7, m8⟩ hY
            cases F2 with
            | nil => cases g2
            | cons f F2 =>
              obtain ⟨rfl, rfl⟩ : d = stD f ∧ ds = F2.map stD := by simpa using g2
              have hfl : F1.length < R.length := by rw [g1]; simp
              have hf2 := hlv2 f (by rw [g1]; simp)
              obtain ⟨i1, i2, -⟩ := addB_inv (c := c) (k := f.2) (n := (f.1 : Nat)) g3 hcs hf2
              have ea : blocksC (addF c (F1 ++ [f]) c1) = addB (blocksC (addF c F1 c1)) c f.2 (f.1 : Nat) := by
                rw [show addF c (F1 ++ [f]) c1 = addF c F1 c1 ++ List.replicate f.1 (c, f.2) by simp [addF], blocksC_rep2]
              have fin := hY _ ⟨F1 ++ [f], F2, .dat (.int (f.1 : Nat)), .dat (.int (f.2 : Nat)), by simp [g1], rfl, by rw [ea]; exact i1, by rw [ea]; simp; omega, rfl, trivial, trivial⟩
              rw [ea] at fin
              simp [stD, okV_of m7, okV_of m8]
              refine ⟨_, c, f.2, (f.1 : Nat), rfl, g3, hcs, hf2, by omega, ?_⟩
              simpa using fin
        simp [-q_sSeq, okV_of n4, okV_of n5, okV_of n6]
        rw [q_sSeq]
        by_cases hs3 : c = 92 ∨ c = 34
        · have hz1 : z = 1 := by
            rcases hone with ⟨q1, q2⟩ | q
            · omega
            · exact q
          subst hz1
          simp [-q_sSeq, q_bInT, hsp2, hs3, D.flat, D.py, PyData.eqv]
          exact core _ (by rfl)
        · simp [-q_sSeq, q_bInT, hsp2, hs3, D.flat]
          exact core _ (by rfl)
      · have hsp3 : c = 92 ∨ c = 34 := by
          by_cases h92 : c = 92
          · exact .inl h92
          · exact .inr (Classical.byContradiction fun h34 => hone (.inl ⟨h92, h34⟩))
        have hz1 : ¬ z = 1 := fun q => hone (.inr q)
        obtain ⟨q, hqc⟩ : ∃ q : Bool, c = endN q := by
          rcases hsp3 with h | h
          · exact ⟨false, h⟩
          · exact ⟨true, h⟩
        have hqm : q = false → m = 1 ∧ freeL T := fun hq => by
          have hc : c = 92 := by rw [hqc, hq]; rfl
          have := a1 hc
          exact ⟨by omega, this.2⟩
        have etx : pieceC (c, (z : Int), (m : Int)) = (List.replicate m (grpN q z)).flatten := by
          unfold pieceC
          simp only
          cases q with
          | false =>
            have hc : c = 92 := hqc
            rw [if_pos hc, (hqm rfl).1]
            simp [grpN]
          | true =>
            have hc : c = 34 := hqc
            rw [if_neg (by omega), if_neg (by omega), show ((z : Int) - 1).toNat = z - 1 by omega]
            simp [grpN]
        rw [etx] at h4
        have hm1 : m ≤ 1000 := by
          have := congrArg List.length h4
          rw [List.length_append, List.length_flatten, List.map_replicate, List.sum_replicate_nat, grpN_len (by omega)] at this
          have : m ≤ m * z := Nat.le_mul_of_pos_right m (by omega)
          omega
        have key : ∀ (c1 c3 : Ch) (S3 : List (Nat × Nat)) (x7 x8 x9 x10 : Sv), cs = c1 ++ c3 → strC c3 = T → (∀ p ∈ S3, 1 ≤ p.1) → expS S3 = prof c3 → noV x7 → noV x8 → noV x9 → noV x10 → X [.dat (.lst (ps.map pieD)), .dat (.lst (S.map stD)), .own false ((blocksC c1).map blkD), .own false (S3.map stD), .dat (.str (sgn c)), .dat (.int (z : Nat)), .dat (.int (m : Nat)), x7, x8, x9, x10] := fun c1 c3 S3 x7 x8 x9 x10 q1 q2 q3 q4 m7 m8 m9 m10 =>
          hX _ ⟨rest, c1, c3, S3, _, _, _, x7, x8, x9, x10, rfl, a2, hpr, q1, by rw [hT, q2], q3, q4, rfl, trivial, trivial, trivial, m7, m8, m9, m10⟩
        simp [-q_sSeq, okV_of n4, okV_of n5, okV_of n6]
        rw [q_sSeq]
        simp [-q_sSeq, q_bInT, hsp2, hsp3, D.flat, D.py, PyData.eqv]
        rw [if_neg (show ¬ ((z : Nat) : Int) = 1 by omega)]
        refine ⟨by omega, ?_⟩
        refine loop_of (fun ds ρ' => ∃ (i j : Nat) (c1 c2 : Ch) (S2 : List (Nat × Nat)) (x7 x8 x9 x10 : Sv), i + j = m ∧ ds = rangeD (i : Int) j ∧ cs = c1 ++ c2 ∧ strC c2 = (List.replicate j (grpN q z)).flatten ++ T ∧ (∀ p ∈ S2, 1 ≤ p.1) ∧ expS S2 = prof c2 ∧ ρ' = [.dat (.lst (ps.map pieD)), .dat (.lst (S.map stD)), .own false ((blocksC c1).map blkD), .own false (S2.map stD), .dat (.str (sgn c)), .dat (.int (z : Nat)), .dat (.int (m : Nat)), x7, x8, x9, x10] ∧ noV x7 ∧ noV x8 ∧ noV x9 ∧ noV x10) ?_ ?_ _ _ ⟨0, m, c1, c2, S2, x7, x8, x9, x10, by omega, rfl, h3, h4.symm, h5, h6, rfl, n7, n8, n9, n10⟩
        · rintro ρ' ⟨i, j, c1, c2, S2, x7, x8, x9, x10, g1, g2, g3, g4, g5, g6, rfl, m7, m8, m9, m10⟩
          cases j with
          | succ j => rw [rangeD_consA] at g2; cases g2
          | zero => exact key c1 c2 S2 x7 x8 x9 x10 g3 (by simpa using g4) g5 g6 m7 m8 m9 m10
        · clear h3 h4 h5 h6 l2 lp2 c1 c2 S2 n7 n8 n9 n10 x7 x8 x9 x10
          rintro d ds ρ' Y ⟨i, j, c1, c2, S2, x7, x8, x9, x10, g1, g2, h3, h4, h5, h6, rfl, n7, n8, n9, n10⟩ hY
          cases j with
          | zero => cases g2
          | succ j =>
            rw [rangeD_consA] at g2
            obtain ⟨rfl, rfl⟩ : d = .int (i : Int) ∧ ds = rangeD ((i : Int) + 1) j := by simpa using g2
            rw [List.replicate_succ, List.flatten_cons, List.append_assoc] at h4
            have l2 : (strC c2).length ≤ 1000 := by rw [h3, strC_app, List.length_append] at hlen; omega
            obtain ⟨d, c3, e1, e2, e3, e4⟩ := split_g (by omega) (fun hq => by
              have hj : j = 0 := by have := (hqm hq).1; omega
              subst hj
              simpa using (hqm hq).2) h4
            subst e1
            have e5 : (prof d).length = z := by rw [prof_len, e2, grpN_len (by omega)]
            rw [prof_app] at h6
            have lz : (prof d ++ prof c3).length ≤ 1000 := by rw [← prof_app, prof_len]; exact l2
            have hz2 : z ≤ 1000 := by rw [List.length_append] at lz; omega
            have t1 : (expS S2).take z = prof d := by rw [h6, List.take_append_of_le_length (by omega), List.take_of_length_le (by omega)]
            have t2 : (expS S2).drop z = prof c3 := by rw [h6, ← e5, List.drop_left]
            obtain ⟨b1, b2⟩ := bin h3
            have hgl := rle_len (L := prof d)
            obtain ⟨p1, p2⟩ := chP_parts e4
            have hlv2 : ∀ f ∈ rle (prof d), f.2 ≤ 200 := fun f hf2 => by
              have h0 := rle_mem f hf2
              obtain ⟨x, hq1, hq2⟩ := List.mem_flatMap.mp h0.2
              have := hok.lv x (by rw [h3]; simp [hq1])
              have := (List.mem_replicate.mp hq2).2
              omega
            have fin := fun S3 k1 k2 => hY _ ⟨i + 1, j, c1 ++ d, c3, S3, x7, x8, .dat (.int (i : Nat)), .dat (.lst ((prtS (rle (prof d))).map parD)), by omega, by push_cast; rfl, by rw [h3, List.append_assoc], e3, k1, k2, rfl, n7, n8, trivial, trivial⟩
            have ep : blocksC (c1 ++ d) = addPt q (prtS (rle (prof d))) (blocksC c1) := by rw [blocksC_parts p2, p1]
            rw [ep] at fin
            simp [-q_sSeq, okV_of n9]
            rw [q_sSeq]
            simp [-q_sSeq]
            refine ⟨S2, z, rfl, h5, by rw [h6, List.length_append]; omega, by rw [h6]; omega, fun S3 k1 k2 => ?_⟩
            rw [t1]
            rw [t2] at k2
            have fin := fin S3 k1 k2
            generalize hR : rle (prof d) = R at hgl hlv2 fin p2
            simp
            refine ⟨⟨n7, n8⟩, ?_⟩
            refine comp_map (fun x => match x with | .tup [.int n, .int k] => .tup [.int k, .int (n / 2 ^ k.toNat)] | _ => x) (by simp [size16]; omega) (fun x hx W hW => ?_) ?_
            · obtain ⟨f, hf2, rfl⟩ := List.mem_map.mp hx
              have hf3 := hlv2 f hf2
              have hpw : 0 < (2 : Int) ^ f.2 := Int.pow_pos (by decide)
              have hcd : CDivW (f.1 : Int) (2 ^ f.2) := cdivW_of hpw (by
                have : ((2 : Int) ^ f.2).natAbs = 2 ^ f.2 := by simp [Int.natAbs_pow]
                rw [this]
                exact (Nat.pow_lt_pow_iff_right (by decide : 1 < 2)).mpr (by omega))
              simp [stD] at hW ⊢
              refine ⟨f.2, rfl, by omega, ?_⟩
              simpa [hcd] using hW
            · have e9 : (R.map stD).map (fun x => match x with | .tup [.int n, .int k] => .tup [.int k, .int (n / 2 ^ k.toNat)] | _ => x) = (prtS R).map parD := by
                simp [stD, prtS, parD, Function.comp_def]
              rw [e9]
              have h34 : (D.str (Str.ofString "\"")).eqOk := eqOk_sgn (c := 34) (by decide)
              have ev34 : PyData.eqv (D.str (sgn c)).py (D.str (Str.ofString "\"")).py = (c == 34) := eqv_sgn (b := 34)
              have ecq : (c == 34) = q := by rw [hqc]; cases q <;> rfl
              simp [okV_of n10, eqOk_sgn hcs, h34, ev34]
              refine ⟨blocksC c1, prtS R, q, by simpa using ecq, b1, fun x hx => ⟨?_, p2 x hx⟩, by simp [prtS]; omega, ?_⟩
              · obtain ⟨f, hf2, rfl⟩ := List.mem_map.mp hx
                exact hlv2 f hf2
              · rw [ecq] 
                simpa using fin
/-! ### a character by its number -/
theorem escW {c k : Nat} : wid c k = (((escC k c).length : Nat) : Int) := by
  unfold wid escC
  have h1 : 1 ≤ 2 ^ k := pow_pos2 k
  by_cases h : c = 92
  · simp [h]
  · by_cases h2 : c = 34
    · simp [h2]
      norm_cast
      omega
    · simp [h, h2]
/-- (number, sign, level, beginning, width) of a character, or None -/
def numD (cs : Ch) (n : Nat) : D := match cs[n]? with
  | some (c, k) => .tup [.int (n : Nat), .str (sgn c), .int (k : Nat), .int ((strC (cs.take n)).length : Nat), .int ((escC k c).length : Nat)]
  | none => .non
theorem chrsC {b : Nat × Nat × Int} {r : Bx} : chrs (b :: r) = List.replicate b.2.2.toNat (b.1, b.2.1) ++ chrs r := by simp [chrs]
theorem str_rep {c k : Nat} : ∀ {n : Nat}, (strC (List.replicate n (c, k))).length = n * (escC k c).length
  | 0 => by simp [strC]
  | n + 1 => by
    rw [List.replicate_succ, strC_cons, List.length_append, str_rep, Nat.add_mul]
    simp only
    omega
def c_numbered_by : Ctr := fun ρ Q _ => ∃ (bs : Bx) (p : Nat), ρ = [.dat (.lst (bs.map blkD)), .dat (.int (p : Nat))] ∧ BSm bs ∧ smI (p : Int) ∧ Q (.dat (numD (chrs bs) p)) [.dat (.lst (bs.map blkD)), .dat (.int (p : Nat))]
/-- numbered_by, slots ['blocks', 'number', 'first', 'start', 'symbol', 'level', 'count', 'size']; lends []; gives dat -/
def b_numbered_by : AS := sSeq (sAsg (aTup (aCons (aC (.int 0)) (aCons (aC (.int 0)) (aNil)))) (agTup (agCons (agName 2) (agCons (agName 3) (agNil)))))
  (sSeq (sFor (iAny (aVar 0)) (agTup (agCons (agName 4) (agCons (agName 5) (agCons (agName 6) (agNil))))) (sSeq (sAsg (aDef c_width_of [] (rDat (aVar 4) (rDat (aVar 5) (rNil)))) (agName 7))
  (sSeq (sIf (tCmpV bLt (vVar 1) (vOp bAddB (vVar 2) (vVar 6))) (sRet (aTup (aCons (aVar 1) (aCons (aVar 4) (aCons (aVar 5) (aCons (aOp bAddB (aVar 3) (aOp bMulB (aOp bSub (aVar 1) (aVar 2)) (aVar 7))) (aCons (aVar 7) (aNil)))))))) (sNx))
  (sSeq (sAug 2 bAddI (aVar 6))
  (sAug 3 bAddI (aOp bMulB (aVar 6) (aVar 7)))))))
  (sRet (aC .non)))
theorem p_numbered_by : Sat 2 8 b_numbered_by c_numbered_by := by
  intro ρ Q Z hl h
  obtain ⟨bs, p, rfl, hi, hs, hq⟩ := h
  unfold b_numbered_by
  simp [endsA]
  refine loop_of (fun ds ρ => ∃ (us : Bx) (c1 : Ch) (v4 v5 v6 v7 : Sv), ρ = [.dat (.lst (bs.map blkD)), .dat (.int (p : Nat)), .dat (.int (c1.length : Nat)), .dat (.int ((strC c1).length : Nat)), v4, v5, v6, v7] ∧ noV v4 ∧ noV v5 ∧ noV v6 ∧ noV v7 ∧ ds = us.map blkD ∧ BSm us ∧ c1.length ≤ p ∧ chrs bs = c1 ++ chrs us) ?_ ?_ _ _ ⟨bs, [], .un, .un, .un, .un, rfl, trivial, trivial, trivial, trivial, rfl, hi, by simp, rfl⟩
  · rintro ρ ⟨us, c1, v4, v5, v6, v7, rfl, -, -, -, -, hd, -, h3, h4⟩
    have : us = [] := by cases us with
      | nil => rfl
      | cons _ _ => cases hd
    subst this
    have e : numD (chrs bs) p = .non := by
      unfold numD
      rw [h4, show c1 ++ chrs [] = c1 by simp [chrs], List.getElem?_eq_none h3]
    rw [e] at hq
    simpa using hq
  · rintro d ds ρ X ⟨us, c1, v4, v5, v6, v7, rfl, n4, n5, n6, n7, hd, hu, h3, h4⟩ hX
    obtain ⟨b, us, rfl, rfl, rfl⟩ : ∃ b us', us = b :: us' ∧ d = blkD b ∧ ds = us'.map blkD := by
      cases us with
      | nil => cases hd
      | cons b us' => cases hd; exact ⟨b, us', rfl, rfl, rfl⟩
    obtain ⟨c, k, n⟩ := b
    have lc := hu.lev (c, k, n) (by simp)
    have mc := hu.sm (c, k, n) (by simp)
    have pc := hu.pos (c, k, n) (by simp)
    simp only at lc mc pc
    have cm := cmul_wid (c := c) mc lc
    have cm2 : CMulA ((p : Int) - (c1.length : Nat)) (wid c k) := cmul_wid (Nat.lt_of_le_of_lt (show ((p : Int) - (c1.length : Nat)).natAbs ≤ (p : Int).natAbs by omega) hs) lc
    rw [chrsC] at h4
    simp only at h4
    simp [blkD, pieD, okV_of n4, okV_of n5, okV_of n6]
    refine ⟨c, k, rfl, by omega, ?_⟩
    simp [okV_of n7, cm]
    have ew : (wid c k) = (((escC k c).length : Nat) : Int) := escW
    by_cases hlt : (p : Int) < (c1.length : Nat) + n
    · have hx : (chrs bs)[p]? = some (c, k) := by
        rw [h4, List.getElem?_append_right h3, List.getElem?_append_left (by rw [List.length_replicate]; omega), List.getElem?_replicate, if_pos (by omega)]
      have hst : (strC ((chrs bs).take p)).length = (strC c1).length + (p - c1.length) * (escC k c).length := by
        rw [h4, List.take_append, List.take_of_length_le h3, List.take_append_of_le_length (by rw [List.length_replicate]; omega), List.take_replicate, Nat.min_eq_left (by omega), strC_app, List.length_append, str_rep]
      have e : numD (chrs bs) p = .tup [.int (p : Nat), .str (sgn c), .int (k : Nat), .int (((strC c1).length : Nat) + ((p : Int) - (c1.length : Nat)) * wid c k), .int (wid c k)] := by
        unfold numD
        rw [hx, hst, ew]
        simp only
        congr 5
        push_cast
        rw [show ((p - c1.length : Nat) : Int) = (p : Int) - (c1.length : Nat) by omega]
      rw [e] at hq
      simp [hlt, cm2]
      exact hq
    · simp [hlt]
      have := hX _ ⟨us, c1 ++ List.replicate n.toNat (c, k), .dat (.str (sgn c)), .dat (.int (k : Nat)), .dat (.int n), .dat (.int (wid c k)), rfl, trivial, trivial, trivial, trivial, rfl, hu.tail, by rw [List.length_append, List.length_replicate]; omega, by rw [h4, List.append_assoc]⟩
      have e1 : (((c1 ++ List.replicate n.toNat (c, k)).length : Nat) : Int) = (c1.length : Nat) + n := by rw [List.length_append, List.length_replicate]; omega
      have e2 : (((strC (c1 ++ List.replicate n.toNat (c, k))).length : Nat) : Int) = ((strC c1).length : Nat) + n * wid c k := by
        rw [strC_app, List.length_append, str_rep, ew]
        push_cast
        rw [show ((n.toNat : Nat) : Int) = n by omega]
      rw [e1, e2] at this
      exact this
/-! ### stretches, with_level -/
def strS (bs : Bx) : List (Nat × Nat) := bs.map fun b => (b.2.2.toNat * (escC b.2.1 b.1).length, b.2.1)
theorem rep_prof {c k : Nat} : ∀ {n : Nat}, prof (List.replicate n (c, k)) = List.replicate (n * (escC k c).length) k
  | 0 => by simp [prof]
  | n + 1 => by
    rw [List.replicate_succ, prof_cons, rep_prof]
    simp only
    rw [List.replicate_append_replicate]
    congr 1
    rw [Nat.add_mul]; omega
theorem strS_exp : ∀ {bs : Bx}, expS (strS bs) = prof (chrs bs)
  | [] => rfl
  | b :: r => by
    rw [chrsC, prof_app, rep_prof, ← strS_exp]
    simp only [strS, List.map_cons]
    rw [expS_cons]
theorem strS_pos {bs : Bx} (h : ∀ b ∈ bs, 1 ≤ b.2.2) : ∀ p ∈ strS bs, 1 ≤ p.1 := fun p hp => by
  obtain ⟨b, hb, rfl⟩ := List.mem_map.mp hp
  have h1 := h b hb
  have h2 := (escC_len (k := b.2.1) (c := b.1)).1
  exact Nat.mul_pos (by omega) (by omega)
def c_stretches_of : Ctr := fun ρ Q _ => ∃ bs : Bx, ρ = [.dat (.lst (bs.map blkD))] ∧ BSm bs ∧ bs.length ≤ 4000 ∧ Q (.own false ((strS bs).map stD)) [.dat (.lst (bs.map blkD))]
/-- stretches_of, slots ['blocks', 'symbol', 'level', 'count']; lends []; gives own -/
def b_stretches_of : AS := sRetO (oLc (iAny (aVar 0)) (agTup (agCons (agName 1) (agCons (agName 2) (agCons (agName 3) (agNil))))) (aYes) (aTup (aCons (aOp bMulB (aVar 3) (aDef c_width_of [] (rDat (aVar 1) (rDat (aVar 2) (rNil))))) (aCons (aVar 2) (aNil)))) [1, 2, 3])
theorem p_stretches_of : Sat 1 4 b_stretches_of c_stretches_of := by
  intro ρ Q Z hl h
  obtain ⟨bs, rfl, hi, hlen, hq⟩ := h
  unfold b_stretches_of
  simp [endsA]
  refine comp_map (fun d => match d with | .tup [.str s, .int k, .int n] => .tup [.int (n * wid (s.cps.getD 0 0) k.toNat), .int k] | _ => d) (by simp [size16]; omega) (fun d hd X hX => ?_) ?_
  · obtain ⟨b, hb, rfl⟩ := List.mem_map.mp hd
    obtain ⟨c, k, n⟩ := b
    have lc := hi.lev _ hb
    have mc := hi.sm _ hb
    simp only at lc mc
    have cm := cmul_wid (c := c) mc lc
    simp [blkD, pieD, sgn] at hX ⊢
    exact ⟨c, k, rfl, by omega, by simpa [cm] using hX⟩
  · have e : (bs.map blkD).map (fun d => match d with | .tup [.str s, .int k, .int n] => .tup [.int (n * wid (s.cps.getD 0 0) k.toNat), .int k] | _ => d) = (strS bs).map stD := by
      rw [List.map_map]
      unfold strS
      rw [List.map_map]
      refine List.map_congr_left fun b hb => ?_
      have := hi.pos b hb
      simp [blkD, pieD, sgn, stD, escW]
      rw [show max b.2.2 0 = b.2.2 by omega]
    rw [e]
    simpa using hq
theorem str_flat {c k : Nat} : ∀ {n : Nat}, strC (List.replicate n (c, k)) = (List.replicate n (escC k c)).flatten
  | 0 => rfl
  | n + 1 => by rw [List.replicate_succ, strC_cons, str_flat, List.replicate_succ, List.flatten_cons]
theorem chars_str : ∀ {bs : Bx}, charsB bs = strC (chrs bs)
  | [] => rfl
  | b :: r => by
    rw [chrsC, strC_app, str_flat, ← chars_str]
    simp [charsB]
theorem pieces_hist {bs : Bx} (h : BInv bs) (hl : (strC (chrs bs)).length ≤ 1000) : Adj92 (piecesB bs) ∧ (∀ p ∈ piecesB bs, symC p.1 ∧ 1 ≤ p.2.1 ∧ 1 ≤ p.2.2) ∧ (piecesB bs).flatMap pieceC = strC (chrs bs) := by
  have hs : ∀ c ∈ strC (chrs bs), symC c := fun c hc => by
    obtain ⟨p, hp, hm⟩ := List.mem_flatMap.mp hc
    obtain ⟨b, hb, hq⟩ := List.mem_flatMap.mp hp
    have e := (List.mem_replicate.mp hq).2
    have sb := h.sym b hb
    have : c = 92 ∨ c = 34 ∨ c = p.1 := by
      unfold escC at hm
      split at hm
      · exact .inl (List.mem_replicate.mp hm).2
      · split at hm
        · rcases List.mem_append.mp hm with hm | hm
          · exact .inl (List.mem_replicate.mp hm).2
          · exact .inr (.inl (List.mem_singleton.mp hm))
        · exact .inr (.inr (List.mem_singleton.mp hm))
    rcases this with rfl | rfl | rfl
    · decide
    · decide
    · rw [e]; exact sb
  have pk := packed_ok _ (strC (chrs bs)) rfl hs
  have tok := packed_textOk hs (by omega)
  have pl := packed_len hs
  have hsz : size (packed (strC (chrs bs))) ≤ 1000 := by rw [size_expand pk.pos, pk.ex]; omega
  have e : piecesB bs = piecesB (txBx (packed (strC (chrs bs)))) := pieces_tx_of h.pos pk.pos (by rw [pk.ex, chars_str])
  have hsm : smI (size (packed (strC (chrs bs)))) := smI_lit (by
    have h1 := size_nonneg pk.pos
    have : (1000 : Nat) < 2 ^ 1000 := by decide +kernel
    omega)
  obtain ⟨q1, -, -, -⟩ := pieces_tx tok hsm (by omega)
  refine ⟨piecesB_adj h.pos, fun p hp => ?_, ?_⟩
  · rw [e] at hp
    exact ⟨q1.sym p hp, q1.siz p hp, q1.pos p hp⟩
  · have := piecesF_chr (bs := bs) (w := 0) (acc := []) h.pos (by omega) (by simp)
    rw [← chars_str]
    simpa [piecesB] using this
theorem lenS_le : ∀ {S : List (Nat × Nat)}, (∀ p ∈ S, 1 ≤ p.1) → S.length ≤ (expS S).length
  | [], _ => Nat.zero_le _
  | p :: S, h => by
    have h1 := h p (by simp)
    have ih := lenS_le (S := S) fun q hq => h q (by simp [hq])
    rw [expS_cons, List.length_append, List.length_replicate, List.length_cons]
    omega
def c_with_level : Ctr := fun ρ Q _ => ∃ (bs : Bx) (cs : Ch) (a n k : Nat), ρ = [.dat (.lst (bs.map blkD)), .dat (.int (a : Nat)), .dat (.int (n : Nat)), .dat (.int (k : Nat))] ∧ HistOk bs ∧ bs.length ≤ 1000 ∧ (strC (chrs bs)).length ≤ 1000 ∧ 1 ≤ n ∧ a + n ≤ (strC (chrs bs)).length ∧ strC cs = strC (chrs bs) ∧
  prof cs = (prof (chrs bs)).take a ++ (List.replicate n k ++ (prof (chrs bs)).drop (a + n)) ∧ ChOk cs ∧ Q (.own false ((blocksC cs).map blkD)) [.dat (.lst (bs.map blkD)), .dat (.int (a : Nat)), .dat (.int (n : Nat)), .dat (.int (k : Nat))]
/-- with_level, slots ['blocks', 'start', 'size', 'level', 'left', 'stretches']; lends []; gives own -/
def b_with_level : AS := sSeq (sSetO (oDef c_stretches_of [] (rDat (aVar 0) (rNil))) 4)
  (sSeq (sAsg (aOp bAddB (aDef c_take [] (rIo 4 (rDat (aVar 1) (rNil)))) (aFrz (oLst (aCons (aTup (aCons (aVar 2) (aCons (aVar 3) (aNil)))) (aNil))))) (agName 5))
  (sSeq (sDrop (aDef c_take [] (rIo 4 (rDat (aVar 2) (rNil)))))
  (sRetO (oDef c_blocks_with [] (rDat (aDef c_pieces_of [] (rDat (aVar 0) (rNil))) (rDat (aOp bAddB (aVar 5) (aVar 4)) (rNil)))))))
theorem p_with_level : Sat 4 6 b_with_level c_with_level := by
  intro ρ Q Z hl h
  obtain ⟨bs, cs, a, n, k, rfl, hH, hlen, hl2, hn, han, hst, hpr, hok, hq⟩ := h
  have hi := hH.bsm
  obtain ⟨w1, w2, w3⟩ := pieces_hist hi.toBInv hl2
  have lp : (expS (strS bs)).length = (strC (chrs bs)).length := by rw [strS_exp, prof_len]
  unfold b_with_level
  simp [endsA]
  refine ⟨bs, rfl, hi, by omega, ?_⟩
  simp
  refine ⟨strS bs, a, rfl, strS_pos hi.pos, by omega, by omega, fun S1 k1 k2 => ?_⟩
  have l1 : (expS S1).length = (strC (chrs bs)).length - a := by rw [k2, List.length_drop, lp]
  have lr := rle_len (L := (expS (strS bs)).take a)
  rw [List.length_take] at lr
  simp
  refine ⟨by omega, S1, n, rfl, k1, by omega, by omega, fun S2 m1 m2 => ?_⟩
  simp
  refine ⟨bs, rfl, hH.toBlksOk, by omega, ?_⟩
  have ls2 := lenS_le m1
  rw [m2, List.length_drop] at ls2
  simp
  refine ⟨by omega, ?_⟩
  have eS : rle ((expS (strS bs)).take a) ++ ((n, k) :: S2) = rle ((expS (strS bs)).take a) ++ (n, k) :: S2 := rfl
  refine ⟨piecesB bs, rle ((expS (strS bs)).take a) ++ (n, k) :: S2, cs, by simp [stD], w1, w2, by rw [w3, hst], fun p hp => ?_, ?_, hok, by rw [hst]; omega, ?_⟩
  · rcases List.mem_append.mp hp with hp | hp
    · exact (rle_mem p hp).1
    · rcases List.mem_cons.mp hp with rfl | hp
      · exact hn
      · exact m1 p hp
  · rw [expS_app, expS_cons, exp_rle, m2, k2, List.drop_drop, hpr, strS_exp]
  · simpa using hq
/-! ### moves of characters -/
theorem swap_mid {A M M' B : Ch} {j : Nat} (h : strC M' = strC M) (hj : ∀ p ∈ M', p.2 = j) : strC (A ++ (M' ++ B)) = strC (A ++ (M ++ B)) ∧
    prof (A ++ (M' ++ B)) = (prof (A ++ (M ++ B))).take (strC A).length ++ (List.replicate (strC M).length j ++ (prof (A ++ (M ++ B))).drop ((strC A).length + (strC M).length)) := by
  refine ⟨by simp only [strC_app, h], ?_⟩
  have lA : (prof A).length = (strC A).length := prof_len
  have lM : (prof M).length = (strC M).length := prof_len
  rw [prof_app, prof_app, prof_const hj, h, prof_app, prof_app, ← lA, ← lM]
  rw [List.take_left, ← List.drop_drop, List.drop_left, List.drop_left]
theorem split_at {cs : Ch} {i : Nat} {p : Nat × Nat} (h : cs[i]? = some p) : cs = cs.take i ++ ([p] ++ cs.drop (i + 1)) := by
  obtain ⟨hi, e⟩ := List.getElem?_eq_some_iff.mp h
  rw [← e, List.singleton_append, List.getElem_cons_drop, List.take_append_drop]
/-- a character lowered -/
def lowC (cs : Ch) (i : Nat) : Option Ch := match cs[i]? with
  | none => none
  | some (c, k) => if k = 0 ∨ (cs[i + 1]?).map (·.2) = some k then none else some (cs.take i ++ (kapP (k - 1) (c, k) ++ cs.drop (i + 1)))
def optD : Option Ch → D
  | none => .non
  | some cs => .lst ((blocksC cs).map blkD)
theorem kap_sym {m : Nat} {p : Nat × Nat} (h : symC p.1) : ∀ q ∈ kapP m p, symC q.1 := by
  intro q hq
  unfold kapP at hq
  split at hq
  · rw [List.mem_singleton.mp hq]; exact h
  · split at hq
    · rw [(List.mem_replicate.mp hq).2]; show symC 92; decide
    · split at hq
      · rcases List.mem_append.mp hq with hq | hq
        · rw [(List.mem_replicate.mp hq).2]; show symC 92; decide
        · rw [List.mem_singleton.mp hq]; show symC 34; decide
      · rw [List.mem_singleton.mp hq]; exact h
structure HB (bs : Bx) : Prop extends HistOk bs where
  len : bs.length ≤ 1000
  str : (strC (chrs bs)).length ≤ 1000
theorem HB.cok {bs : Bx} (h : HB bs) : ChOk (chrs bs) := ⟨fun p hp => by
  obtain ⟨b, hb, hq⟩ := List.mem_flatMap.mp hp
  rw [(List.mem_replicate.mp hq).2]
  exact h.sym b hb, fun p hp => by
  obtain ⟨b, hb, hq⟩ := List.mem_flatMap.mp hp
  rw [(List.mem_replicate.mp hq).2]
  exact h.lev b hb⟩
def c_lowered_by : Ctr := fun ρ Q _ => ∃ (bs : Bx) (i : Nat), ρ = [.dat (.lst (bs.map blkD)), .dat (.int (i : Nat))] ∧ HB bs ∧ i < (chrs bs).length ∧ Q (.dat (optD (lowC (chrs bs) i))) [.dat (.lst (bs.map blkD)), .dat (.int (i : Nat))]
/-- lowered_by, slots ['blocks', 'number', 'found', 'symbol', 'level', 'start', 'size', 'following']; lends []; gives dat -/
def b_lowered_by : AS := sSeq (sAsg (aDef c_numbered_by [] (rDat (aVar 0) (rDat (aVar 1) (rNil)))) (agTup (agCons (agName 2) (agCons (agName 3) (agCons (agName 4) (agCons (agName 5) (agCons (agName 6) (agNil))))))))
  (sSeq (sAsg (aDef c_numbered_by [] (rDat (aVar 0) (rDat (aOp bAddB (aVar 1) (aC (.int 1))) (rNil)))) (agName 7))
  (sSeq (sIf (aOr (tCmpV bEq (vVar 4) (vC (.int 0))) (aAnd (tCmpV bNotN (vVar 7) (vC .non)) (tCmpV bEq (vOp bIx (vVar 7) (vC (.int 2))) (vVar 4)))) (sRet (aC .non)) (sNx))
  (sRet (aDef c_with_level [] (rDat (aVar 0) (rDat (aVar 5) (rDat (aVar 6) (rDat (aOp bSub (aVar 4) (aC (.int 1))) (rNil)))))))))
theorem p_lowered_by : Sat 2 8 b_lowered_by c_lowered_by := by
  intro ρ Q Z hl h
  obtain ⟨bs, i, rfl, hB, hi, hq⟩ := h
  have hlc := strC_len (cs := chrs bs)
  have hstr := hB.str
  have hcok := hB.cok
  have smi : ∀ n : Nat, n ≤ 2000 → smI (n : Int) := fun n hn => smI_lit (by have : (2000 : Nat) < 2 ^ 1000 := by decide +kernel
                                                                            omega)
  obtain ⟨c, k, hck⟩ : ∃ c k, (chrs bs)[i]? = some (c, k) := ⟨_, _, List.getElem?_eq_getElem hi⟩
  have hmem := List.mem_of_getElem? hck
  have hk := hcok.lv _ hmem
  have hc := hcok.sy _ hmem
  simp only at hk hc
  have hsp := split_at hck
  have e1 : numD (chrs bs) i = .tup [.int (i : Nat), .str (sgn c), .int (k : Nat), .int ((strC ((chrs bs).take i)).length : Nat), .int ((escC k c).length : Nat)] := by unfold numD; rw [hck]
  unfold b_lowered_by
  simp [endsA]
  refine ⟨bs, i, rfl, hB.toHistOk.bsm, smi i (by omega), ?_⟩
  rw [e1]
  simp
  refine ⟨bs, i + 1, rfl, hB.toHistOk.bsm, smi (i + 1) (by omega), ?_⟩
  simp [-q_sSeq]
  refine seq_hide fun u hu => ?_
  have done : lowC (chrs bs) i = none → Q (.dat .non) [.dat (.lst (bs.map blkD)), .dat (.int (i : Nat))] := fun e => by rw [e] at hq; exact hq
  have go : ∀ v7 : D, ¬ (k = 0 ∨ ((chrs bs)[i + 1]?).map (·.2) = some k) → sRet (aDef c_with_level [] (rDat (aVar 0) (rDat (aVar 5) (rDat (aVar 6) (rDat (aOp bSub (aVar 4) (aC (.int 1))) (rNil)))))) { nx := fun ρ' => Q (.dat .non) (ρ'.take 2), rt := fun r ρ' => Q r (ρ'.take 2), xx := fun x ρ' => Z x (ρ'.take 2) } [.dat (.lst (bs.map blkD)), .dat (.int (i : Nat)), .dat (.int (i : Nat)), .dat (.str (sgn c)), .dat (.int (k : Nat)), .dat (.int ((strC ((chrs bs).take i)).length : Nat)), .dat (.int ((escC k c).length : Nat)), .dat v7] := fun v7 hn => by
    have hk0 : k ≠ 0 := fun e => hn (.inl e)
    have el : lowC (chrs bs) i = some ((chrs bs).take i ++ (kapP (k - 1) (c, k) ++ (chrs bs).drop (i + 1))) := by unfold lowC; rw [hck]; simp only; rw [if_neg hn]
    obtain ⟨s1, s2⟩ := swap_mid (A := (chrs bs).take i) (M := [(c, k)]) (M' := kapP (k - 1) (c, k)) (B := (chrs bs).drop (i + 1)) (j := k - 1) (by rw [kapP_str]; simp [strC]) fun p hp => by rw [kapP_lev p hp]; simp only; omega
    rw [← hsp] at s1 s2
    have e3 : strC [(c, k)] = escC k c := by simp [strC]
    rw [e3] at s2
    have hlen : (strC ((chrs bs).take i)).length + (escC k c).length ≤ (strC (chrs bs)).length := by
      conv => rhs; rw [hsp]
      rw [strC_app, strC_app, e3, List.length_append, List.length_append]
      omega
    simp
    refine ⟨bs, (chrs bs).take i ++ (kapP (k - 1) (c, k) ++ (chrs bs).drop (i + 1)), (strC ((chrs bs).take i)).length, (escC k c).length, k - 1, by simp; omega, hB.toHistOk, hB.len, hB.str, (escC_len (k := k) (c := c)).1, hlen, s1, s2, ⟨fun p hp => ?_, fun p hp => ?_⟩, ?_⟩
    · rcases List.mem_append.mp hp with hp | hp
      · exact hcok.sy p (List.mem_of_mem_take hp)
      · rcases List.mem_append.mp hp with hp | hp
        · exact kap_sym hc p hp
        · exact hcok.sy p (List.mem_of_mem_drop hp)
    · rcases List.mem_append.mp hp with hp | hp
      · exact hcok.lv p (List.mem_of_mem_take hp)
      · rcases List.mem_append.mp hp with hp | hp
        · rw [kapP_lev p hp]; simp only; omega
        · exact hcok.lv p (List.mem_of_mem_drop hp)
    · rw [el] at hq
      simpa [optD] using hq
  by_cases hk0 : k = 0
  · subst hk0
    have := done (by unfold lowC; rw [hck]; simp)
    simp
    simpa using this
  · cases hnx : (chrs bs)[i + 1]? with
    | none =>
      have e2 : numD (chrs bs) (i + 1) = .non := by unfold numD; rw [hnx]
      rw [e2]
      simp [hk0, D.isN]
      subst hu
      exact go .non (by rw [hnx]; simp [hk0])
    | some q =>
      obtain ⟨c', k'⟩ := q
      have e2 : numD (chrs bs) (i + 1) = .tup [.int ((i + 1 : Nat) : Int), .str (sgn c'), .int (k' : Nat), .int ((strC ((chrs bs).take (i + 1))).length : Nat), .int ((escC k' c').length : Nat)] := by unfold numD; rw [hnx]
      rw [e2]
      by_cases hkk : k' = k
      · have := done (by unfold lowC; rw [hck]; simp [hnx, hkk])
        simp [hk0, D.isN, hkk]
        simpa using this
      · have hkk2 : ¬ ((k' : Nat) : Int) = (k : Nat) := by omega
        simp [hk0, D.isN, hkk2]
        subst hu
        exact go _ (by rw [hnx]; simp [hk0, hkk])
/-- a character raised -/
def riseC (cs : Ch) (i : Nat) : Option Ch := match cs[i]? with
  | none => none
  | some (c, k) => if k = 200 ∨ (0 < i ∧ (cs[i - 1]?).map (·.2) = some k) ∨ c = 34 then none
    else if c = 92 then (match cs[i + 1]? with
      | some (c', k') => if (c' = 92 ∨ c' = 34) ∧ k' = k then some (cs.take i ++ ([(c', k + 1)] ++ cs.drop (i + 2))) else none
      | none => none)
    else some (cs.take i ++ ([(c, k + 1)] ++ cs.drop (i + 1)))
theorem esc_two {k c : Nat} (h : c = 92 ∨ c = 34) : escC (k + 1) c = escC k 92 ++ escC k c := by
  have := pow_pos2 k
  rcases h with rfl | rfl
  · simp [escC]
    congr 1
    rw [Nat.pow_succ]; omega
  · simp [escC]
    rw [← List.append_assoc, List.replicate_append_replicate]
    congr 2
    rw [Nat.pow_succ]; omega
def c_raised_byV : Ctr := fun ρ Q _ => ∃ (bs : Bx) (i : Nat), ρ = [.dat (.lst (bs.map blkD)), .dat (.int (i : Nat))] ∧ HB bs ∧ i < (chrs bs).length ∧ Q (.dat (optD (riseC (chrs bs) i))) [.dat (.lst (bs.map blkD)), .dat (.int (i : Nat))]
/-- raised_by, slots ['blocks', 'number', 'found', 'symbol', 'level', 'start', 'size', 'before', 'following']; lends []; gives dat -/
def b_raised_by : AS := sSeq (sAsg (aDef c_numbered_by [] (rDat (aVar 0) (rDat (aVar 1) (rNil)))) (agTup (agCons (agName 2) (agCons (agName 3) (agCons (agName 4) (agCons (agName 5) (agCons (agName 6) (agNil))))))))
  (sSeq (sAsg (aIfE (tCmpV bGt (vVar 1) (vC (.int 0))) (aDef c_numbered_by [] (rDat (aVar 0) (rDat (aOp bSub (aVar 1) (aC (.int 1))) (rNil)))) (aC .non)) (agName 7))
  (sSeq (sAsg (aDef c_numbered_by [] (rDat (aVar 0) (rDat (aOp bAddB (aVar 1) (aC (.int 1))) (rNil)))) (agName 8))
  (sSeq (sIf (aOr (tCmpV bEq (vVar 4) (vC (.int 200))) (aOr (aAnd (tCmpV bNotN (vVar 7) (vC .non)) (tCmpV bEq (vOp bIx (vVar 7) (vC (.int 2))) (vVar 4))) (tCmpV bEq (vVar 3) (vC (.str "\""))))) (sRet (aC .non)) (sNx))
  (sSeq (sIf (tCmpV bEq (vVar 3) (vC (.str "\\"))) (sSeq (sIf (aOr (tCmpV bIsN (vVar 8) (vC .non)) (aOr (tCmpV (bIn true) (vOp bIx (vVar 8) (vC (.int 1))) (vC (.tup [.str "\\", .str "\""]))) (tCmpV bNe (vOp bIx (vVar 8) (vC (.int 2))) (vVar 4)))) (sRet (aC .non)) (sNx))
  (sAug 6 bMulS (aC (.int 2)))) (sNx))
  (sRet (aDef c_with_level [] (rDat (aVar 0) (rDat (aVar 5) (rDat (aVar 6) (rDat (aOp bAddB (aVar 4) (aC (.int 1))) (rNil)))))))))))
theorem p_raised_byV : Sat 2 9 b_raised_by c_raised_byV := by
  intro ρ Q Z hl h
  obtain ⟨bs, i, rfl, hB, hi, hq⟩ := h
  have hlc := strC_len (cs := chrs bs)
  have hstr := hB.str
  have hcok := hB.cok
  have smi : ∀ n : Nat, n ≤ 2000 → smI (n : Int) := fun n hn => smI_lit (by have : (2000 : Nat) < 2 ^ 1000 := by decide +kernel
                                                                            omega)
  obtain ⟨c, k, hck⟩ : ∃ c k, (chrs bs)[i]? = some (c, k) := ⟨_, _, List.getElem?_eq_getElem hi⟩
  have hmem := List.mem_of_getElem? hck
  have hk := hcok.lv _ hmem
  have hc := hcok.sy _ hmem
  simp only at hk hc
  have hsp := split_at hck
  have e1 : numD (chrs bs) i = .tup [.int (i : Nat), .str (sgn c), .int (k : Nat), .int ((strC ((chrs bs).take i)).length : Nat), .int ((escC k c).length : Nat)] := by unfold numD; rw [hck]
  unfold b_raised_by
  simp [endsA]
  refine ⟨bs, i, rfl, hB.toHistOk.bsm, smi i (by omega), ?_⟩
  rw [e1]
  simp [-q_sSeq]
  refine seq_hide fun u hu => ?_
  have done : riseC (chrs bs) i = none → Q (.dat .non) [.dat (.lst (bs.map blkD)), .dat (.int (i : Nat))] := fun e => by rw [e] at hq; exact hq
  have go : ∀ (M B : Ch) (c' : Nat) (w : Int) (v7 v8 : D), k ≠ 200 → chrs bs = (chrs bs).take i ++ (M ++ B) → strC [(c', k + 1)] = strC M → w = ((strC M).length : Nat) → symC c' → riseC (chrs bs) i = some ((chrs bs).take i ++ ([(c', k + 1)] ++ B)) →
      sRet (aDef c_with_level [] (rDat (aVar 0) (rDat (aVar 5) (rDat (aVar 6) (rDat (aOp bAddB (aVar 4) (aC (.int 1))) (rNil)))))) { nx := fun ρ' => Q (.dat .non) (ρ'.take 2), rt := fun r ρ' => Q r (ρ'.take 2), xx := fun x ρ' => Z x (ρ'.take 2) } [.dat (.lst (bs.map blkD)), .dat (.int (i : Nat)), .dat (.int (i : Nat)), .dat (.str (sgn c)), .dat (.int (k : Nat)), .dat (.int ((strC ((chrs bs).take i)).length : Nat)), .dat (.int w), .dat v7, .dat v8] := fun M B c' w v7 v8 hk2 hM hst hw hc' el => by
    obtain ⟨s1, s2⟩ := swap_mid (A := (chrs bs).take i) (M := M) (M' := [(c', k + 1)]) (B := B) (j := k + 1) hst fun p hp => by rw [List.mem_singleton.mp hp]
    rw [← hM] at s1 s2
    have hlen : (strC ((chrs bs).take i)).length + (strC M).length ≤ (strC (chrs bs)).length := by
      conv => rhs; rw [hM]
      rw [strC_app, strC_app, List.length_append, List.length_append]
      omega
    have hM1 : 1 ≤ (strC M).length := by
      rw [← hst]
      have := strC_len (cs := [(c', k + 1)])
      simpa using this
    subst hw
    simp
    refine ⟨bs, (chrs bs).take i ++ ([(c', k + 1)] ++ B), (strC ((chrs bs).take i)).length, (strC M).length, k + 1, by simp, hB.toHistOk, hB.len, hB.str, hM1, hlen, s1, s2, ⟨fun p hp => ?_, fun p hp => ?_⟩, ?_⟩
    · rcases List.mem_append.mp hp with hp | hp
      · exact hcok.sy p (List.mem_of_mem_take hp)
      · rcases List.mem_append.mp hp with hp | hp
        · rw [List.mem_singleton.mp hp]; exact hc'
        · exact hcok.sy p (by rw [hM]; simp [hp])
    · rcases List.mem_append.mp hp with hp | hp
      · exact hcok.lv p (List.mem_of_mem_take hp)
      · rcases List.mem_append.mp hp with hp | hp
        · rw [List.mem_singleton.mp hp]; simp only; omega
        · exact hcok.lv p (by rw [hM]; simp [hp])
    · rw [el] at hq
      simpa [optD] using hq
  have bef : ∃ v7 : D, (v7 = .non ∧ ¬ (0 < i ∧ ((chrs bs)[i - 1]?).map (·.2) = some k) ∨ ∃ c0 k0 a s z, v7 = .tup [.int a, .str (sgn c0), .int (k0 : Nat), .int s, .int z] ∧ ((0 < i ∧ ((chrs bs)[i - 1]?).map (·.2) = some k) ↔ k0 = k)) ∧
      ((0 < i → v7 = numD (chrs bs) (i - 1)) ∧ (¬ 0 < i → v7 = .non)) := by
    by_cases h0 : 0 < i
    · obtain ⟨c0, k0, h00⟩ : ∃ c0 k0, (chrs bs)[i - 1]? = some (c0, k0) := ⟨_, _, List.getElem?_eq_getElem (by omega)⟩
      refine ⟨numD (chrs bs) (i - 1), .inr ⟨c0, k0, _, _, _, by unfold numD; rw [h00], by rw [h00]; simp [h0]⟩, fun _ => rfl, fun h => absurd h0 h⟩
    · exact ⟨.non, .inl ⟨rfl, fun h => h0 h.1⟩, fun h => absurd h h0, fun _ => rfl⟩
  obtain ⟨v7, hv7, hv1, hv2⟩ := bef
  have step : u { nx := fun ρ' => Q (.dat .non) (ρ'.take 2), rt := fun r ρ' => Q r (ρ'.take 2), xx := fun x ρ' => Z x (ρ'.take 2) } [.dat (.lst (bs.map blkD)), .dat (.int (i : Nat)), .dat (.int (i : Nat)), .dat (.str (sgn c)), .dat (.int (k : Nat)), .dat (.int ((strC ((chrs bs).take i)).length : Nat)), .dat (.int ((escC k c).length : Nat)), .dat v7, .un] := by
    subst hu
    refine seq_hide fun u hu => ?_
    simp
    refine ⟨bs, i + 1, rfl, hB.toHistOk.bsm, smi (i + 1) (by omega), ?_⟩
    simp
    subst hu
    refine seq_hide fun u hu => ?_
    have h34 : (D.str (Str.ofString "\"")).eqOk := eqOk_sgn (c := 34) (by decide)
    have ev34 : PyData.eqv (D.str (sgn c)).py (D.str (Str.ofString "\"")).py = (c == 34) := eqv_sgn (b := 34)
    have h92 : (D.str (Str.ofString "\\")).eqOk := eqOk_sgn (c := 92) (by decide)
    have ev92 : PyData.eqv (D.str (sgn c)).py (D.str (Str.ofString "\\")).py = (c == 92) := eqv_sgn (b := 92)
    have rest : k ≠ 200 → ¬ (0 < i ∧ ((chrs bs)[i - 1]?).map (·.2) = some k) → c ≠ 34 → u { nx := fun ρ' => Q (.dat .non) (ρ'.take 2), rt := fun r ρ' => Q r (ρ'.take 2), xx := fun x ρ' => Z x (ρ'.take 2) } [.dat (.lst (bs.map blkD)), .dat (.int (i : Nat)), .dat (.int (i : Nat)), .dat (.str (sgn c)), .dat (.int (k : Nat)), .dat (.int ((strC ((chrs bs).take i)).length : Nat)), .dat (.int ((escC k c).length : Nat)), .dat v7, .dat (numD (chrs bs) (i + 1))] := fun r1 r2 r3 => by
      have hno : ¬ (k = 200 ∨ (0 < i ∧ ((chrs bs)[i - 1]?).map (·.2) = some k) ∨ c = 34) := fun h => by
        rcases h with h | h | h
        · exact r1 h
        · exact r2 h
        · exact r3 h
      subst hu
      refine seq_hide fun u hu => ?_
      by_cases hc92 : c = 92
      · subst hc92
        have hriz : riseC (chrs bs) i = (match (chrs bs)[i + 1]? with
          | some (c', k') => if (c' = 92 ∨ c' = 34) ∧ k' = k then some ((chrs bs).take i ++ ([(c', k + 1)] ++ (chrs bs).drop (i + 2))) else none
          | none => none) := by unfold riseC; rw [hck]; simp only; rw [if_neg hno]; exact if_pos trivial
        cases hnx : (chrs bs)[i + 1]? with
        | none =>
          have e2 : numD (chrs bs) (i + 1) = .non := by unfold numD; rw [hnx]
          rw [hnx] at hriz
          have := done hriz
          rw [e2]
          simp [eqOk_sgn hc, h92, ev92, D.isN]
          simpa using this
        | some q =>
          obtain ⟨c', k'⟩ := q
          have hm' := List.mem_of_getElem? hnx
          have hc' := hcok.sy _ hm'
          simp only at hc'
          have e2 : numD (chrs bs) (i + 1) = .tup [.int ((i + 1 : Nat) : Int), .str (sgn c'), .int (k' : Nat), .int ((strC ((chrs bs).take (i + 1))).length : Nat), .int ((escC k' c').length : Nat)] := by unfold numD; rw [hnx]
          rw [hnx] at hriz
          simp only at hriz
          have hsp2 := special_in hc'
          rw [e2]
          by_cases hs3 : c' = 92 ∨ c' = 34
          · by_cases hkk : k' = k
            · subst hkk
              rw [if_pos ⟨hs3, rfl⟩] at hriz
              have hM : chrs bs = (chrs bs).take i ++ ([(92, k'), (c', k')] ++ (chrs bs).drop (i + 2)) := by
                have h2 := split_at hnx
                have e3 : (chrs bs).drop (i + 1) = (c', k') :: (chrs bs).drop (i + 2) := by
                  obtain ⟨hi2, e⟩ := List.getElem?_eq_some_iff.mp hnx
                  rw [List.drop_eq_getElem_cons hi2, e]
                conv => lhs; rw [hsp, e3]
                rfl
              simp [eqOk_sgn hc, h92, ev92, D.isN, q_bInT, hsp2, hs3, D.flat]
              have hw : (strC [(92, k'), (c', k')]).length = (escC k' 92).length * 2 := by
                have : (escC k' 92).length = (escC k' c').length := by
                  have := pow_pos2 k'
                  rcases hs3 with rfl | rfl
                  · rfl
                  · simp [escC]; omega
                simp [strC]
                omega
              refine ⟨.inr (by omega), ?_⟩
              subst hu
              exact go [(92, k'), (c', k')] ((chrs bs).drop (i + 2)) c' _ v7 _ r1 hM (by simp [strC, esc_two hs3]) (by rw [hw]; push_cast; rfl) hc' hriz
            · have hkk2 : ¬ ((k' : Nat) : Int) = (k : Nat) := by omega
              rw [if_neg (fun h => hkk h.2)] at hriz
              have := done hriz
              simp [eqOk_sgn hc, h92, ev92, D.isN, q_bInT, hsp2, hs3, D.flat, hkk2]
              simpa using this
          · rw [if_neg (fun h => hs3 h.1)] at hriz
            have := done hriz
            simp [eqOk_sgn hc, h92, ev92, D.isN, q_bInT, hsp2, hs3, D.flat]
            simpa using this
      · simp [eqOk_sgn hc, h92, ev92, hc92]
        subst hu
        exact go [(c, k)] ((chrs bs).drop (i + 1)) c _ v7 _ r1 hsp (by
          have e9 : ∀ j, escC j c = [c] := fun j => by simp [escC, hc92, r3]
          simp [strC, e9]) (by simp [strC]) hc (by unfold riseC; rw [hck]; simp only; rw [if_neg hno, if_neg hc92])
    by_cases hk2 : k = 200
    · have := done (by unfold riseC; rw [hck]; simp [hk2])
      simp [hk2]
      simpa using this
    · have hk3 : ¬ ((k : Nat) : Int) = 200 := by omega
      rcases hv7 with ⟨rfl, hb⟩ | ⟨c0, k0, a, s, z, rfl, hb⟩
      · by_cases hc34 : c = 34
        · have := done (by unfold riseC; rw [hck]; simp [hc34])
          simp [hk3, D.isN, hc34, o34, eqOk_sgn (show symC 34 by decide), eqv_sgn]
          simpa [hc34] using this
        · simp [hk3, D.isN, eqOk_sgn hc, h34, ev34, hc34]
          exact rest hk2 hb hc34
      · by_cases hkk : k0 = k
        · have := done (by unfold riseC; rw [hck]; simp only; rw [if_pos (.inr (.inl (hb.mpr hkk)))])
          simp [hk3, D.isN, hkk]
          simpa using this
        · have hkk2 : ¬ ((k0 : Nat) : Int) = (k : Nat) := by omega
          by_cases hc34 : c = 34
          · have := done (by unfold riseC; rw [hck]; simp [hc34])
            simp [hk3, D.isN, hkk2, hc34, o34, eqOk_sgn (show symC 34 by decide), eqv_sgn]
            simpa [hc34] using this
          · simp [hk3, D.isN, hkk2, eqOk_sgn hc, h34, ev34, hc34]
            exact rest hk2 (fun h => hkk (hb.mp h)) hc34
  by_cases h0 : 0 < i
  · simp [h0]
    refine ⟨bs, i - 1, by simp; omega, hB.toHistOk.bsm, smi (i - 1) (by omega), ?_⟩
    rw [← hv1 h0]
    simpa using step
  · simp [h0]
    rw [hv2 h0] at step
    simpa using step
/-- the first character has level 200 -/
def c_raised_byX : Ctr := fun ρ Q _ => ∃ (bs : Bx) (c : Nat), ρ = [.dat (.lst (bs.map blkD)), .dat (.int 0)] ∧ BSm bs ∧ symC c ∧ (chrs bs)[0]? = some (c, 200) ∧ Q (.dat .non) [.dat (.lst (bs.map blkD)), .dat (.int 0)]
theorem p_raised_byX : Sat 2 9 b_raised_by c_raised_byX := by
  intro ρ Q Z hl h
  obtain ⟨bs, c, rfl, hB, hc, h0, hq⟩ := h
  have e1 : numD (chrs bs) 0 = .tup [.int (0 : Nat), .str (sgn c), .int (200 : Nat), .int ((strC ((chrs bs).take 0)).length : Nat), .int ((escC 200 c).length : Nat)] := by unfold numD; rw [h0]
  unfold b_raised_by
  simp [endsA]
  refine ⟨bs, 0, rfl, hB, smI_lit (by decide), ?_⟩
  rw [e1]
  generalize (escC 200 c).length = w
  simp [-q_sSeq]
  refine seq_hide fun u hu => ?_
  simp
  subst hu
  refine seq_hide fun u hu => ?_
  simp
  refine ⟨bs, 1, rfl, hB, smI_lit (by decide), ?_⟩
  simp
  subst hu
  simp
  exact hq
def c_raised_by : Ctr := orC c_raised_byV c_raised_byX
theorem p_raised_by : Sat 2 9 b_raised_by c_raised_by := sat_or p_raised_byV p_raised_byX
/-! ### lowered and raised -/
theorem cnt_len : ∀ {bs : Bx}, (∀ b ∈ bs, 1 ≤ b.2.2) → cntB bs = (((chrs bs).length : Nat) : Int)
  | [], _ => by simp [cntB, chrs]
  | b :: r, h => by
    have h1 := h b (by simp)
    have ih := cnt_len (bs := r) fun x hx => h x (by simp [hx])
    rw [chrsC, List.length_append, List.length_replicate, show cntB (b :: r) = b.2.2 + cntB r by simp [cntB], ih]
    omega
def c_count_by : Ctr := fun ρ Q _ => ∃ bs : Bx, ρ = [.dat (.lst (bs.map blkD))] ∧ bs.length ≤ 4000 ∧ Q (.dat (.int (cntB bs))) [.dat (.lst (bs.map blkD))]
/-- count_by, slots ['blocks', 'symbol', 'level', 'count']; lends []; gives dat -/
def b_count_by : AS := sRet (aCall bSum (aCons (aFrz (oLc (iAny (aVar 0)) (agTup (agCons (agName 1) (agCons (agName 2) (agCons (agName 3) (agNil))))) (aYes) (aVar 3) [1, 2, 3])) (aNil)))
theorem p_count_by : Sat 1 4 b_count_by c_count_by := by
  intro ρ Q Z hl h
  obtain ⟨bs, rfl, hlen, hq⟩ := h
  unfold b_count_by
  simp [endsA]
  refine comp_map (fun d => match d with | .tup [_, _, n] => n | _ => d) (by simp [size16]; omega) ?_ ?_
  · intro d hd X hX
    obtain ⟨b, hb, rfl⟩ := List.mem_map.mp hd
    simp [blkD, pieD] at hX ⊢
    exact hX
  · have e : (bs.map blkD).map (fun d => match d with | .tup [_, _, n] => n | _ => d) = (bs.map fun b => b.2.2).map .int := by simp [blkD, pieD, Function.comp_def]
    rw [e]
    simp only [q_kFrz, q_kCons1, q_aNil, q_kCons2, q_kCall, q_bSum, q_kAt]
    exact ⟨_, intsOf_map _, by simpa [cntB] using hq⟩
def c_checked_numberV : Ctr := fun ρ Q _ => ∃ v bs i, ρ = [.dat v, .dat (.int (i : Nat))] ∧ IsHx v bs ∧ HB bs ∧ i < (chrs bs).length ∧ Q (.dat (.lst (bs.map blkD))) [.dat v, .dat (.int (i : Nat))]
/-- checked_number, slots ['history', 'number', 'blocks']; lends []; gives dat -/
def b_checked_number : AS := sSeq (sAsg (aDef c_checked_blocks [] (rDat (aVar 0) (rNil))) (agName 2))
  (sSeq (sIf (aNot (vTr (vDef c_is_integer [] (vCons (vVar 1) (vCons (vC (.int 0)) (vCons (vOp bSub (vDef c_count_by [] (vCons (vVar 2) (vNil))) (vC (.int 1))) (vNil))))))) (sRaise0 "InvalidNumber") (sNx))
  (sRet (aVar 2)))
theorem p_checked_numberV : Sat 2 3 b_checked_number c_checked_numberV := by
  intro ρ Q Z hl h
  obtain ⟨v, bs, i, rfl, hv, hB, hi, hq⟩ := h
  have hlen := hB.len
  have hc := cnt_len hB.pos
  unfold b_checked_number
  simp [endsA]
  refine .inl ⟨v, bs, rfl, hv, by omega, ?_⟩
  simp
  refine ⟨bs, rfl, by omega, ?_⟩
  simp
  refine ⟨_, _, _, rfl, trivial, .inr ⟨_, rfl⟩, ?_⟩
  have h1 : (i : Int) ≤ cntB bs - 1 := by omega
  simpa [isIntD, h1] using hq
def c_checked_numberX : Ctr := fun ρ Q _ => ∃ v bs, ρ = [.dat v, .dat (.int 0)] ∧ IsHx v bs ∧ bs.length ≤ 1000 ∧ 0 ≤ cntB bs - 1 ∧ Q (.dat (.lst (bs.map blkD))) [.dat v, .dat (.int 0)]
theorem p_checked_numberX : Sat 2 3 b_checked_number c_checked_numberX := by
  intro ρ Q Z hl h
  obtain ⟨v, bs, rfl, hv, hlen, hc, hq⟩ := h
  unfold b_checked_number
  simp [endsA]
  refine .inl ⟨v, bs, rfl, hv, by omega, ?_⟩
  simp
  refine ⟨bs, rfl, by omega, ?_⟩
  simp
  refine ⟨_, _, _, rfl, trivial, .inr ⟨_, rfl⟩, ?_⟩
  have hc2 : 1 ≤ cntB bs := by omega
  simpa [isIntD, hc, hc2] using hq
def c_checked_number : Ctr := orC c_checked_numberV c_checked_numberX
theorem p_checked_number : Sat 2 3 b_checked_number c_checked_number := sat_or p_checked_numberV p_checked_numberX
def c_lowered : Ctr := fun ρ Q Z => ∃ v bs i, ρ = [.dat v, .dat (.int (i : Nat))] ∧ IsHx v bs ∧ HB bs ∧ i < (chrs bs).length ∧ (∀ cs, lowC (chrs bs) i = some cs → Q (.dat (.lst ((blocksC cs).map blkD))) [.dat v, .dat (.int (i : Nat))]) ∧ (lowC (chrs bs) i = none → Z ⟨"NoMove", none⟩ [.dat v, .dat (.int (i : Nat))])
/-- lowered, slots ['history', 'number', 'found']; lends []; gives dat -/
def b_lowered : AS := sSeq (sAsg (aDef c_lowered_by [] (rDat (aDef c_checked_number [] (rDat (aVar 0) (rDat (aVar 1) (rNil)))) (rDat (aVar 1) (rNil)))) (agName 2))
  (sSeq (sIf (tCmpV bIsN (vVar 2) (vC .non)) (sRaise0 "NoMove") (sNx))
  (sRet (aVar 2)))
theorem p_lowered : Sat 2 3 b_lowered c_lowered := by
  intro ρ Q Z hl h
  obtain ⟨v, bs, i, rfl, hv, hB, hi, hq, hz⟩ := h
  unfold b_lowered
  simp [endsA]
  refine .inl ⟨v, bs, i, rfl, hv, hB, hi, ?_⟩
  simp
  refine ⟨bs, i, rfl, hB, hi, ?_⟩
  cases e : lowC (chrs bs) i with
  | none => simp [optD, D.isN]; exact hz e
  | some cs => simp [optD, D.isN]; exact hq cs e
def c_raisedV : Ctr := fun ρ Q Z => ∃ v bs i, ρ = [.dat v, .dat (.int (i : Nat))] ∧ IsHx v bs ∧ HB bs ∧ i < (chrs bs).length ∧ (∀ cs, riseC (chrs bs) i = some cs → Q (.dat (.lst ((blocksC cs).map blkD))) [.dat v, .dat (.int (i : Nat))]) ∧ (riseC (chrs bs) i = none → Z ⟨"NoMove", none⟩ [.dat v, .dat (.int (i : Nat))])
/-- raised, slots ['history', 'number', 'found']; lends []; gives dat -/
def b_raised : AS := sSeq (sAsg (aDef c_raised_by [] (rDat (aDef c_checked_number [] (rDat (aVar 0) (rDat (aVar 1) (rNil)))) (rDat (aVar 1) (rNil)))) (agName 2))
  (sSeq (sIf (tCmpV bIsN (vVar 2) (vC .non)) (sRaise0 "NoMove") (sNx))
  (sRet (aVar 2)))
theorem p_raisedV : Sat 2 3 b_raised c_raisedV := by
  intro ρ Q Z hl h
  obtain ⟨v, bs, i, rfl, hv, hB, hi, hq, hz⟩ := h
  unfold b_raised
  simp [endsA]
  refine .inl ⟨v, bs, i, rfl, hv, hB, hi, ?_⟩
  simp
  refine .inl ⟨bs, i, rfl, hB, hi, ?_⟩
  cases e : riseC (chrs bs) i with
  | none => simp [optD, D.isN]; exact hz e
  | some cs => simp [optD, D.isN]; exact hq cs e
theorem cnt_le1 {bs : Bx} {p : Nat × Nat} (h : (chrs bs)[0]? = some p) (hb : ∀ b ∈ bs, 1 ≤ b.2.2) : 0 ≤ cntB bs - 1 := by
  have := (List.getElem?_eq_some_iff.mp h).1
  have := cnt_len hb
  omega
def c_raisedX : Ctr := fun ρ _ Z => ∃ v bs c, ρ = [.dat v, .dat (.int 0)] ∧ IsHx v bs ∧ bs.length ≤ 1000 ∧ symC c ∧ (chrs bs)[0]? = some (c, 200) ∧ Z ⟨"NoMove", none⟩ [.dat v, .dat (.int 0)]
theorem p_raisedX : Sat 2 3 b_raised c_raisedX := by
  intro ρ Q Z hl h
  obtain ⟨v, bs, c, rfl, hv, hlen, hc, h0, hz⟩ := h
  unfold b_raised
  simp [endsA]
  refine .inr ⟨v, bs, rfl, hv, hlen, cnt_le1 h0 hv.2.pos, ?_⟩
  simp
  refine .inr ⟨bs, c, rfl, hv.2.bsm, hc, h0, ?_⟩
  simp [D.isN]
  exact hz
def c_raised : Ctr := orC c_raisedV c_raisedX
theorem p_raised : Sat 2 3 b_raised c_raised := sat_or p_raisedV p_raisedX
/-- blocks, or a word -/
def wrdD : Option Ch → D
  | none => .str (Str.ofString "none")
  | some cs => .lst ((blocksC cs).map blkD)
def c_w_low : Ctr := fun ρ Q _ => ∃ v bs i, ρ = [.dat v, .dat (.int (i : Nat))] ∧ IsHx v bs ∧ HB bs ∧ i < (chrs bs).length ∧ Q (.dat (wrdD (lowC (chrs bs) i))) [.dat v, .dat (.int (i : Nat))]
/-- w_low, slots ['l_blocks_here', 'l_number']; lends []; gives dat -/
def b_w_low : AS := sTry0 cl_NoMove (sRet (aDef c_lowered [] (rDat (aVar 0) (rDat (aVar 1) (rNil))))) (sRet (aC (.str "none")))
theorem p_w_low : Sat 2 2 b_w_low c_w_low := by
  intro ρ Q Z hl h
  obtain ⟨v, bs, i, rfl, hv, hB, hi, hq⟩ := h
  unfold b_w_low
  simp [endsA]
  refine ⟨v, bs, i, rfl, hv, hB, hi, fun cs e => ?_, fun e => ?_⟩
  · rw [e] at hq
    simpa [wrdD] using hq
  · rw [e] at hq
    simp
    rw [q_kTryX0 (b := true) (by decide +kernel)]
    simpa [wrdD] using hq
def c_w_highV : Ctr := fun ρ Q _ => ∃ v bs i, ρ = [.dat v, .dat (.int (i : Nat))] ∧ IsHx v bs ∧ HB bs ∧ i < (chrs bs).length ∧ Q (.dat (wrdD (riseC (chrs bs) i))) [.dat v, .dat (.int (i : Nat))]
/-- w_high, slots ['l_blocks_here', 'l_number']; lends []; gives dat -/
def b_w_high : AS := sTry0 cl_NoMove (sRet (aDef c_raised [] (rDat (aVar 0) (rDat (aVar 1) (rNil))))) (sRet (aC (.str "none")))
theorem p_w_highV : Sat 2 2 b_w_high c_w_highV := by
  intro ρ Q Z hl h
  obtain ⟨v, bs, i, rfl, hv, hB, hi, hq⟩ := h
  unfold b_w_high
  simp [endsA]
  refine .inl ⟨v, bs, i, rfl, hv, hB, hi, fun cs e => ?_, fun e => ?_⟩
  · rw [e] at hq
    simpa [wrdD] using hq
  · rw [e] at hq
    simp
    rw [q_kTryX0 (b := true) (by decide +kernel)]
    simpa [wrdD] using hq
def c_w_highX : Ctr := fun ρ Q _ => ∃ v bs c, ρ = [.dat v, .dat (.int 0)] ∧ IsHx v bs ∧ bs.length ≤ 1000 ∧ symC c ∧ (chrs bs)[0]? = some (c, 200) ∧ Q (.dat (.str (Str.ofString "none"))) [.dat v, .dat (.int 0)]
theorem p_w_highX : Sat 2 2 b_w_high c_w_highX := by
  intro ρ Q Z hl h
  obtain ⟨v, bs, c, rfl, hv, hlen, hc, h0, hq⟩ := h
  unfold b_w_high
  simp [endsA]
  refine .inr ⟨v, bs, c, rfl, hv, hlen, hc, h0, ?_⟩
  simp
  rw [q_kTryX0 (b := true) (by decide +kernel)]
  simpa using hq
def c_w_high : Ctr := orC c_w_highV c_w_highX
theorem p_w_high : Sat 2 2 b_w_high c_w_high := sat_or p_w_highV p_w_highX
/-! ### the levels that a lowered character leaves -/
def dueI (cs : Ch) (i : Nat) : List Int := match cs[i]? with
  | none => []
  | some (c, k) => (prof (cs.take i)).map (fun n : Nat => (n : Int)) ++ (List.replicate (escC k c).length ((k : Int) - 1) ++ (prof (cs.drop (i + 1))).map (fun n : Nat => (n : Int)))
theorem desc_splitA : ∀ {A X : Ch} {e : Nat}, descC e (A ++ X) → ∃ e', descC e' X ∧ ∀ Y, descC e' Y → descC e (A ++ Y)
  | [], X, e, h => ⟨e, h, fun Y hY => hY⟩
  | p :: A, X, e, h => by
    obtain ⟨e', h1, h2⟩ := desc_splitA (A := A) h.2
    exact ⟨e', h1, fun Y hY => ⟨h.1, h2 Y hY⟩⟩
theorem low_his {l : List Nat} {e i : Nat} {cs cs' : Ch} (h : HisC l e cs) (hl : lowC cs i = some cs') : HisC l e cs' ∧ (prof cs').map (fun n : Nat => (n : Int)) = dueI cs i := by
  unfold lowC at hl
  unfold dueI
  cases hck : cs[i]? with
  | none => rw [hck] at hl; cases hl
  | some p =>
    obtain ⟨c, k⟩ := p
    rw [hck] at hl
    simp only at hl ⊢
    split at hl
    · cases hl
    · rename_i hn
      obtain rfl := Option.some.inj hl
      have hk0 : k ≠ 0 := fun e => hn (.inl e)
      have hsp := split_at hck
      have hlv : ∀ p ∈ kapP (k - 1) (c, k), p.2 = k - 1 := fun p hp => by rw [kapP_lev p hp]; simp only; omega
      refine ⟨⟨?_, ?_⟩, ?_⟩
      · rw [strC_app, strC_app, kapP_str, ← h.1]
        conv => rhs; rw [hsp]
        rw [strC_app, strC_app]
        simp [strC]
      · have hd := h.2
        rw [hsp] at hd
        obtain ⟨e', h1, h2⟩ := desc_splitA hd
        refine h2 _ (desc_const hlv (by have := h1.1; simp only at this; omega) ?_)
        have hB := h1.2
        simp only [List.nil_append] at hB
        cases hb : cs.drop (i + 1) with
        | nil => trivial
        | cons q r =>
          rw [hb] at hB
          have hq : cs[i + 1]? = some q := by
            have := congrArg List.head? hb
            simpa [List.head?_drop] using this
          refine ⟨?_, hB.2⟩
          have := hB.1
          have : q.2 ≠ k := fun e => hn (.inr (by rw [hq, ← e]; rfl))
          omega
      · rw [prof_app, prof_app, prof_const hlv, kapP_str]
        simp only [List.map_append, List.map_replicate]
        rw [show ((k - 1 : Nat) : Int) = (k : Int) - 1 by omega]
theorem prof_pw : ∀ {cs : Ch} {e : Nat}, descC e cs → (prof cs).Pairwise (· ≥ ·)
  | [], _, _ => List.Pairwise.nil
  | p :: r, e, h => by
    rw [prof_cons]
    refine List.pairwise_append.mpr ⟨List.pairwise_replicate.mpr (.inr (Nat.le_refl _)), prof_pw h.2, fun a ha b hb => ?_⟩
    rw [(List.mem_replicate.mp ha).2]
    exact prof_le h.2 b hb
theorem low_none {l : List Nat} {e i : Nat} {cs : Ch} (hi : i < cs.length) (hl : lowC cs i = none) : ∀ cs'', HisC l e cs'' → (prof cs'').map (fun n : Nat => (n : Int)) ≠ dueI cs i := by
  intro cs'' h hE
  obtain ⟨c, k, hck⟩ : ∃ c k, cs[i]? = some (c, k) := ⟨_, _, List.getElem?_eq_getElem hi⟩
  unfold lowC at hl
  unfold dueI at hE
  rw [hck] at hl hE
  simp only at hl hE
  have l1 := (escC_len (k := k) (c := c)).1
  split at hl
  · rename_i hn
    rcases hn with hk | hk
    · have : ((k : Int) - 1) ∈ (prof cs'').map (fun n : Nat => (n : Int)) := by
        rw [hE]
        refine List.mem_append.mpr (.inr (List.mem_append.mpr (.inl (List.mem_replicate.mpr ⟨by omega, rfl⟩))))
      obtain ⟨n, -, hn⟩ := List.mem_map.mp this
      omega
    · obtain ⟨q, hq, hq2⟩ := Option.map_eq_some_iff.mp hk
      obtain ⟨hi2, hq3⟩ := List.getElem?_eq_some_iff.mp hq
      have hd : cs.drop (i + 1) = q :: cs.drop (i + 2) := by rw [List.drop_eq_getElem_cons hi2, hq3]
      have l2 := (escC_len (k := q.2) (c := q.1)).1
      have hpw : ((prof cs'').map (fun n : Nat => (n : Int))).Pairwise (· ≥ ·) := by
        rw [List.pairwise_map]
        exact (prof_pw h.2).imp fun h => by omega
      rw [hE] at hpw
      have hp2 := (List.pairwise_append.mp hpw).2.1
      have hp3 := (List.pairwise_append.mp hp2).2.2 ((k : Int) - 1) (List.mem_replicate.mpr ⟨by omega, rfl⟩) (k : Int) (by
        rw [hd, prof_cons]
        refine List.mem_map.mpr ⟨k, List.mem_append.mpr (.inl (List.mem_replicate.mpr ⟨by omega, hq2.symm⟩)), rfl⟩)
      omega
  · cases hl
/-! ### raising undoes lowering -/
theorem desc_bef : ∀ {A : Ch} {p : Nat × Nat} {B : Ch} {e : Nat}, descC e (A ++ p :: B) → p.2 ≤ e ∧ ∀ q ∈ A, p.2 ≤ q.2
  | [], p, B, e, h => ⟨h.1, fun q hq => by cases hq⟩
  | a :: A, p, B, e, h => by
    obtain ⟨h1, h2⟩ := desc_bef (A := A) h.2
    have := h.1
    refine ⟨by omega, fun q hq => ?_⟩
    rcases List.mem_cons.mp hq with rfl | hq
    · exact h1
    · exact h2 q hq
/-- the parts of a lowered history -/
theorem low_parts {cs cs' : Ch} {i : Nat} (h : lowC cs' i = some cs) : ∃ A c j B, cs' = A ++ (c, j + 1) :: B ∧ A.length = i ∧ (∀ q, B.head? = some q → q.2 ≠ j + 1) ∧ cs = A ++ (kapP j (c, j + 1) ++ B) := by
  unfold lowC at h
  cases hck : cs'[i]? with
  | none => rw [hck] at h; cases h
  | some p =>
    obtain ⟨c, k⟩ := p
    rw [hck] at h
    simp only at h
    split at h
    · cases h
    · rename_i hn
      have hk0 : k ≠ 0 := fun e => hn (.inl e)
      obtain ⟨j, rfl⟩ : ∃ j, k = j + 1 := ⟨k - 1, by omega⟩
      have hi := (List.getElem?_eq_some_iff.mp hck).1
      refine ⟨cs'.take i, c, j, cs'.drop (i + 1), split_at hck, by rw [List.length_take]; omega, fun q hq e => ?_, (Option.some.inj h).symm⟩
      rw [List.head?_drop] at hq
      exact hn (.inr (by rw [hq, ← e]; rfl))
theorem kap_one {c j : Nat} : kapP j (c, j + 1) = if c = 92 ∨ c = 34 then [(92, j), (c, j)] else [(c, j)] := by
  unfold kapP
  simp only
  rw [if_neg (by omega)]
  by_cases h92 : c = 92
  · subst h92
    simp
  · by_cases h34 : c = 34
    · subst h34
      simp
    · simp [h92, h34]
/-- what is lowered to cs is what cs is raised to -/
theorem rise_of {l : List Nat} {e i : Nat} {cs cs' : Ch} (h : HisC l e cs') (he : e ≤ 200) (hl : lowC cs' i = some cs) : riseC cs i = some cs' := by
  obtain ⟨A, c, j, B, rfl, hA, hB, rfl⟩ := low_parts hl
  obtain ⟨d1, d2⟩ := desc_bef h.2
  simp only at d1 d2
  have hbef : ∀ X : Ch, ¬ (0 < i ∧ ((A ++ X)[i - 1]?).map (·.2) = some j) := fun X ⟨h0, h1⟩ => by
    rw [List.getElem?_append_left (by omega)] at h1
    obtain ⟨q, hq, hq2⟩ := Option.map_eq_some_iff.mp h1
    have := d2 q (List.mem_of_getElem? hq)
    omega
  have hat : ∀ (x : Nat × Nat) (X : Ch), (A ++ x :: X)[i]? = some x := fun x X => by
    rw [List.getElem?_append_right (by omega), hA, Nat.sub_self]
    rfl
  have htk : ∀ X : Ch, (A ++ X).take i = A := fun X => by rw [← hA, List.take_left]
  rw [kap_one]
  by_cases hsp : c = 92 ∨ c = 34
  · rw [if_pos hsp]
    have hn : (A ++ (92, j) :: (c, j) :: B)[i + 1]? = some (c, j) := by
      rw [List.getElem?_append_right (by omega), show i + 1 - A.length = 1 by omega]
      rfl
    have hd : (A ++ (92, j) :: (c, j) :: B).drop (i + 2) = B := by
      rw [show A ++ (92, j) :: (c, j) :: B = (A ++ [(92, j), (c, j)]) ++ B by simp, List.drop_left' (by simp [hA])]
    show riseC (A ++ (92, j) :: (c, j) :: B) i = _
    unfold riseC
    rw [hat]
    simp only
    rw [if_neg (by
      rintro (h | h | h)
      · omega
      · exact hbef _ h
      · omega), if_pos trivial, hn]
    simp only
    rw [if_pos ⟨hsp, trivial⟩, htk, hd]
    rfl
  · rw [if_neg hsp]
    have hd : (A ++ (c, j) :: B).drop (i + 1) = B := by
      rw [show A ++ (c, j) :: B = (A ++ [(c, j)]) ++ B by simp, List.drop_left' (by simp [hA])]
    show riseC (A ++ (c, j) :: B) i = _
    unfold riseC
    rw [hat]
    simp only
    rw [if_neg (by
      rintro (h | h | h)
      · omega
      · exact hbef _ h
      · exact hsp (.inr h)), if_neg (fun h => hsp (.inl h)), htk, hd]
    rfl
theorem desc_top {A : Ch} {p p' : Nat × Nat} {B B' : Ch} {e : Nat} (h : descC e (A ++ p :: B)) (hp : p'.2 = p.2 + 1) (hA : ∀ q, A.getLast? = some q → q.2 ≠ p.2) (hB : descC p'.2 B') : descC (e + 1) (A ++ p' :: B') := by
  rcases List.eq_nil_or_concat A with rfl | ⟨A', q, rfl⟩
  · have h1 : p.2 ≤ e := h.1
    exact ⟨by omega, hB⟩
  · rw [List.concat_eq_append] at h hA ⊢
    have hq := hA q (by simp)
    rw [List.append_assoc] at h ⊢
    obtain ⟨e', h1, h2⟩ := desc_splitA h
    refine desc_mono (Nat.le_succ e) (h2 _ ⟨h1.1, ?_, hB⟩)
    have := h1.2.1
    omega
theorem low_of {l : List Nat} {e i : Nat} {cs cs' : Ch} (h : HisC l e cs) (hr : riseC cs i = some cs') : HisC l (e + 1) cs' ∧ i < cs'.length ∧ lowC cs' i = some cs := by
  unfold riseC at hr
  cases hck : cs[i]? with
  | none => rw [hck] at hr; cases hr
  | some p =>
    obtain ⟨c, k⟩ := p
    rw [hck] at hr
    simp only at hr
    have hsp := split_at hck
    have hi := (List.getElem?_eq_some_iff.mp hck).1
    have hd := h.2
    rw [hsp] at hd
    obtain ⟨d1, d2⟩ := desc_bef (p := (c, k)) (B := cs.drop (i + 1)) hd
    have hdB : descC k (cs.drop (i + 1)) := (desc_right hd).2
    have lA : (cs.take i).length = i := by rw [List.length_take]; omega
    split at hr
    · cases hr
    · rename_i hno
      have hA : ∀ q, (cs.take i).getLast? = some q → q.2 ≠ k := fun q hq e => by
        have h0 : 0 < i := by
          cases i with
          | zero => simp at hq
          | succ i => omega
        refine hno (.inr (.inl ⟨h0, ?_⟩))
        rw [List.getLast?_eq_getElem?, lA, List.getElem?_take, if_pos (by omega)] at hq
        rw [hq, ← e]
        rfl
      have fin : ∀ (c' : Nat) (B : Ch), cs = cs.take i ++ (kapP k (c', k + 1) ++ B) → descC k B → strC [(c', k + 1)] ++ strC B = strC ([(c, k)] ++ cs.drop (i + 1)) → cs' = cs.take i ++ ([(c', k + 1)] ++ B) → HisC l (e + 1) cs' ∧ i < cs'.length ∧ lowC cs' i = some cs := fun c' B e1 hB e2 e3 => by
        subst e3
        refine ⟨⟨?_, desc_top (p := (c, k)) hd rfl hA (desc_mono (Nat.le_succ k) hB)⟩, by simp; omega, ?_⟩
        · rw [strC_app, strC_app, e2, ← strC_app, ← hsp]
          exact h.1
        · have hat : (cs.take i ++ ([(c', k + 1)] ++ B))[i]? = some (c', k + 1) := by
            rw [List.getElem?_append_right (by omega), lA, Nat.sub_self]
            rfl
          have hn : (cs.take i ++ ([(c', k + 1)] ++ B))[i + 1]? = B.head? := by
            rw [List.getElem?_append_right (by omega), lA, show i + 1 - i = 1 by omega]
            cases B <;> rfl
          unfold lowC
          rw [hat]
          simp only
          rw [hn, if_neg]
          · rw [Nat.add_sub_cancel, List.take_left' lA, show (cs.take i ++ ([(c', k + 1)] ++ B)).drop (i + 1) = B by
              rw [← List.append_assoc, List.drop_left' (by simp; omega)], ← e1]
          · rintro (h | h)
            · omega
            · obtain ⟨q, hq, hq2⟩ := Option.map_eq_some_iff.mp h
              cases B with
              | nil => cases hq
              | cons b B =>
                obtain rfl := Option.some.inj hq
                have := hB.1
                omega
      split at hr
      · rename_i hc
        subst hc
        cases hnx : cs[i + 1]? with
        | none => rw [hnx] at hr; cases hr
        | some q =>
          obtain ⟨c', k'⟩ := q
          rw [hnx] at hr
          simp only at hr
          split at hr
          · rename_i hs
            obtain ⟨hs1, rfl⟩ := hs
            have e3 : cs.drop (i + 1) = (c', k') :: cs.drop (i + 2) := by
              obtain ⟨hi2, e⟩ := List.getElem?_eq_some_iff.mp hnx
              rw [List.drop_eq_getElem_cons hi2, e]
            rw [e3] at hdB
            refine fin c' (cs.drop (i + 2)) ?_ hdB.2 ?_ (Option.some.inj hr).symm
            · rw [kap_one, if_pos hs1]
              conv => lhs; rw [hsp, e3]
              rfl
            · rw [e3]
              simp [strC, esc_two hs1]
          · cases hr
      · rename_i hc
        have hc34 : c ≠ 34 := fun e => hno (.inr (.inr e))
        refine fin c (cs.drop (i + 1)) ?_ hdB ?_ (Option.some.inj hr).symm
        · rw [kap_one, if_neg (by omega)]
          exact hsp
        · have e9 : ∀ j, escC j c = [c] := fun j => by simp [escC, hc, hc34]
          simp [strC, e9]
/-! ### w_due: a character lowered, found among all histories -/
theorem set_mid {P T : List Int} {x y : Int} {j : Nat} : (P ++ (List.replicate j x ++ y :: T)).set (P.length + j) x = P ++ (List.replicate (j + 1) x ++ T) := by
  rw [List.set_append_right _ _ (by omega), Nat.add_sub_cancel_left, List.set_append_right _ _ (by simp), List.length_replicate, Nat.sub_self, List.set_cons_zero, List.replicate_succ', List.append_assoc]
  rfl
theorem prof_parts {cs : Ch} {i c k : Nat} (h : cs[i]? = some (c, k)) : prof cs = prof (cs.take i) ++ (List.replicate (escC k c).length k ++ prof (cs.drop (i + 1))) := by
  conv => lhs; rw [split_at h]
  rw [prof_app, prof_app]
  simp [prof]
theorem esc_sum {A : Ch} : (A.map fun p => ((escC p.2 p.1).length : Int)).sum = (((strC A).length : Nat) : Int) := by
  induction A with
  | nil => rfl
  | cons p r ih => rw [List.map_cons, List.sum_cons, ih, strC_cons, List.length_append]; push_cast; rfl
theorem cut_take {xs : List D} {i : Nat} : cutD xs none (some (i : Int)) = xs.take i := by
  unfold cutD
  rw [HT.sIx_nat, HT.sIx_none, List.drop_zero, Nat.sub_zero]
  rcases Nat.le_total i xs.length with h | h
  · rw [Nat.min_eq_left h]
  · rw [Nat.min_eq_right h, List.take_of_length_le (Nat.le_refl _), List.take_of_length_le h]
def c_w_due : Ctr := fun ρ Q _ => ∃ (l : List Nat) (e : Nat) (fs : List Ch) (a i : Nat) (cs : Ch), ρ = [.dat (.lst (fs.map chsD)), .dat (.lst (fs.map fun cs => natsL (prof cs))), .dat (.int (a : Nat)), .dat (.int (i : Nat))] ∧ (∀ c ∈ l, symC c) ∧ l.length ≤ 12 ∧ e ≤ 4 ∧ fs.length ≤ 2000 ∧ (∀ cs ∈ fs, HisC l e cs) ∧ (∀ cs, HisC l e cs → cs ∈ fs) ∧ fs[a]? = some cs ∧ i < cs.length ∧
  Q (.dat (wrdD (lowC cs i))) [.dat (.lst (fs.map chsD)), .dat (.lst (fs.map fun cs => natsL (prof cs))), .dat (.int (a : Nat)), .dat (.int (i : Nat))]
/-- w_due, slots ['l_some', 'l_rows', 'l_one', 'l_number', 'l_start', 'l_symbol', 'l_level', 'l_due_here', 'l_at']; lends []; gives dat -/
def b_w_due : AS := sSeq (sAsg (aCall bSum (aCons (aFrz (oLc (iAny (aSl (aOp bIx (aVar 0) (aVar 2)) (aNoP) (aPart (aVar 3)))) (agTup (agCons (agName 5) (agCons (agName 6) (agNil)))) (aYes) (aCall bLen (aCons (aDef c_l_escaped [] (rDat (aVar 5) (rDat (aVar 6) (rNil)))) (aNil))) [5, 6])) (aNil))) (agName 4))
  (sSeq (sAsg (aOp bIx (aOp bIx (aVar 0) (aVar 2)) (aVar 3)) (agTup (agCons (agName 5) (agCons (agName 6) (agNil)))))
  (sSeq (sSetO (oListA (aCons (aOp bIx (aVar 1) (aVar 2)) (aNil))) 7)
  (sSeq (sFor (iRange2 (aCons (aVar 4) (aCons (aOp bAddB (aVar 4) (aCall bLen (aCons (aDef c_l_escaped [] (rDat (aVar 5) (rDat (aVar 6) (rNil)))) (aNil)))) (aNil)))) (agName 8) (sPutO 7 (aOp bSub (aOwnIx 7 (aVar 8)) (aC (.int 1))) (aVar 8)))
  (sRet (aIfE (tCmpV (bInD false) (vVar 7) (vVar 1)) (aDef c_a_blocks [] (rDat (aOp bIx (aVar 0) (aLix (aVar 1) (aVar 7))) (rNil))) (aC (.str "none")))))))
theorem p_w_due : Sat 4 9 b_w_due c_w_due := by
  intro ρ Q Z hl h
  obtain ⟨l, e, fs, a, i, cs, rfl, hs, hlen, he, hfl, hall, hin, ha, hi, hq⟩ := h
  have hcs := hall cs (List.mem_of_getElem? ha)
  obtain ⟨c, k, hck⟩ : ∃ c k, cs[i]? = some (c, k) := ⟨_, _, List.getElem?_eq_getElem hi⟩
  have hcl : cs.length ≤ 12 := by have := strC_len (cs := cs); rw [hcs.1] at this; omega
  have okc : ∀ cs, HisC l e cs → ∀ p ∈ cs, symC p.1 ∧ p.2 ≤ 10 := fun cs h p hp => ⟨hs p.1 (by rw [← h.1]; exact strC_mem hp), by have := desc_le h.2 p hp; omega⟩
  have ixa : (fs.map chsD)[a]? = some (chsD cs) := by rw [List.getElem?_map, ha]; rfl
  have ixr : (fs.map fun cs => natsL (prof cs))[a]? = some (natsL (prof cs)) := by rw [List.getElem?_map, ha]; rfl
  unfold b_w_due
  simp [endsA, -q_sSeq]
  refine seq_hide fun u hu => ?_
  simp [ixa]
  have okA : ∀ p ∈ cs, symC p.1 ∧ p.2 ≤ 10 := okc cs hcs
  have escE : ∀ (c k : Nat), symC c → k ≤ 10 → (strL (escS k [c])).length = (escC k c).length ∧ [c].length * 2 ^ k ≤ 1000000 := fun c k _ hk => by
    have pk : 2 ^ k ≤ 2 ^ 10 := Nat.pow_le_pow_right (by decide) hk
    have esc1 : escS k [c] = escC k c := by simp [escS]
    rw [esc1]
    exact ⟨strL_len, by simp; omega⟩
  have eC : ∀ cs : Ch, chsD cs = .lst (cs.map fun p => .tup [.str (sgn p.1), .int (p.2 : Nat)]) := fun cs => by simp [chsD, runD]
  rw [eC]
  simp only [q_kSl3l]
  rw [cut_take]
  simp
  rw [← List.map_take]
  refine comp_map (fun d => match d with | D.tup [D.str s, D.int k] => D.int (((escC k.toNat (s.cps.getD 0 0)).length : Nat) : Int) | _ => d) (by simp [size16]; omega) (fun d hd X hX => ?_) ?_
  · obtain ⟨p, hp, rfl⟩ := List.mem_map.mp hd
    obtain ⟨h1, h2⟩ := okA p (List.mem_of_mem_take hp)
    obtain ⟨h3, h4⟩ := escE p.1 p.2 h1 h2
    simp [sgn] at hX ⊢
    refine ⟨[p.1], p.2, rfl, by simpa using h1, by simpa using h4, by omega, ?_⟩
    simp at h3
    simp [h3]
    have e1 := (escC_len (k := p.2) (c := p.1)).2
    have e2 : 2 ^ p.2 ≤ 2 ^ 10 := Nat.pow_le_pow_right (by decide) h2
    exact ⟨by omega, hX⟩
  have e9 : ((cs.take i).map fun p => D.tup [.str (sgn p.1), .int (p.2 : Nat)]).map (fun d => match d with | D.tup [D.str s, D.int k] => D.int (((escC k.toNat (s.cps.getD 0 0)).length : Nat) : Int) | _ => d) = ((cs.take i).map fun p => ((escC p.2 p.1).length : Int)).map .int := by
    rw [List.map_map, List.map_map]
    refine List.map_congr_left fun p _ => ?_
    simp [sgn]
  rw [e9]
  simp only [q_kFrz, q_kCons1, q_aNil, q_kCons2, q_kCall, q_bSum, q_kAt]
  refine ⟨_, intsOf_map _, ?_⟩
  rw [esc_sum]
  simp
  subst hu
  refine seq_hide fun u hu => ?_
  have ixc : (cs.map fun p => D.tup [.str (sgn p.1), .int (p.2 : Nat)])[i]? = some (.tup [.str (sgn c), .int (k : Nat)]) := by rw [List.getElem?_map, hck]; rfl
  simp [ixa, eC, hck]
  subst hu
  refine seq_hide fun u hu => ?_
  have hpp := prof_parts hck
  have hn : (escC k c).length = (escC k c).length := rfl
  have hcm := okA (c, k) (List.mem_of_getElem? hck)
  simp only at hcm
  obtain ⟨h3, h4⟩ := escE c k hcm.1 hcm.2
  have lpf : (prof cs).length = l.length := by rw [prof_len, hcs.1]
  have lpA : (prof (cs.take i)).length = (strC (cs.take i)).length := prof_len
  have hsum : (strC (cs.take i)).length + ((escC k c).length + (prof (cs.drop (i + 1))).length) = l.length := by
    rw [← lpf, hpp, List.length_append, List.length_append, List.length_replicate, lpA]
  simp
  refine ⟨D.lst (((prof cs).map fun n : Nat => (n : Int)).map .int), ⟨cs, ha, rfl⟩, ?_⟩
  simp
  subst hu
  refine seq_hide fun u hu => ?_
  simp
  refine ⟨[c], k, rfl, by simpa using hcm.1, by simpa using h4, by omega, ?_⟩
  simp at h3
  simp [h3]
  refine ⟨by omega, ⟨by omega, by omega, by omega⟩, ?_⟩
  rw [show (((strC (cs.take i)).length : Int) + ((escC k c).length : Int)).toNat - (strC (cs.take i)).length = (escC k c).length by omega]
  have e0 : (prof cs).map (D.int ∘ fun n : Nat => (n : Int)) = ((prof (cs.take i)).map (fun n : Nat => (n : Int)) ++ (List.replicate 0 ((k : Int) - 1) ++ (List.replicate (escC k c).length (k : Int) ++ (prof (cs.drop (i + 1))).map (fun n : Nat => (n : Int))))).map .int := by
    conv => lhs; rw [hpp]
    simp [Function.comp_def]
  rw [e0]
  have edue : dueI cs i = (prof (cs.take i)).map (fun n : Nat => (n : Int)) ++ (List.replicate (escC k c).length ((k : Int) - 1) ++ (prof (cs.drop (i + 1))).map (fun n : Nat => (n : Int))) := by unfold dueI; rw [hck]
  have lP : ((prof (cs.take i)).map (fun n : Nat => (n : Int))).length = (strC (cs.take i)).length := by rw [List.length_map, lpA]
  generalize (prof (cs.take i)).map (fun n : Nat => (n : Int)) = P at edue lP ⊢
  generalize (prof (cs.drop (i + 1))).map (fun n : Nat => (n : Int)) = R at edue ⊢
  refine loop_of (fun ds ρ => ∃ (j m : Nat) (v8 : Sv), j + m = (escC k c).length ∧ ds = rangeD (((strC (cs.take i)).length + j : Nat) : Int) m ∧ ρ = [.dat (.lst (fs.map chsD)), .dat (.lst (fs.map fun cs => natsL (prof cs))), .dat (.int (a : Nat)), .dat (.int (i : Nat)), .dat (.int ((strC (cs.take i)).length : Nat)), .dat (.str (sgn c)), .dat (.int (k : Nat)), .own false ((P ++ (List.replicate j ((k : Int) - 1) ++ (List.replicate m (k : Int) ++ R))).map .int), v8] ∧ noV v8) ?_ ?_ _ _ ⟨0, (escC k c).length, .un, by omega, by simp, rfl, trivial⟩
  · rintro ρ ⟨j, m, v8, g1, g2, rfl, n8⟩
    cases m with
    | succ m => rw [rangeD_consA] at g2; cases g2
    | zero =>
      have : j = (escC k c).length := by omega
      subst this
      rw [show P ++ (List.replicate (escC k c).length ((k : Int) - 1) ++ (List.replicate 0 (k : Int) ++ R)) = dueI cs i by rw [edue]; simp]
      show u _ _
      subst hu
      have okI := eqOk_ints (g := dueI cs i)
      have okr : (D.lst (fs.map fun cs => natsL (prof cs))).eqOk := by
        refine eqOk_of ?_ ?_
        · show D.sokL true _ = true
          rw [sokL_iff]
          intro d hd
          obtain ⟨x, hc, rfl⟩ := List.mem_map.mp hd
          exact natsL_sok fun n hn => by have := prof_le (hall x hc).2 n hn; omega
        · have : D.depL (fs.map fun cs => natsL (prof cs)) ≤ 1 := by
            rw [depL_le]
            intro d hd
            obtain ⟨x, hc, rfl⟩ := List.mem_map.mp hd
            exact natsL_dep
          simp only [D.dep]
          omega
      have ev : ∀ x : Ch, PyData.eqv (natsL (prof x)).py (D.lst ((dueI cs i).map .int)).py = decide ((prof x).map (fun n : Nat => (n : Int)) = dueI cs i) := fun x => by
        rw [show natsL (prof x) = .lst (((prof x).map fun n : Nat => (n : Int)).map .int) from rfl, eqv_intsK]
        rw [Bool.eq_iff_iff, beq_iff_eq, decide_eq_true_eq]
      cases hl : lowC cs i with
      | none =>
        have any : ((fs.map fun cs => natsL (prof cs)).any fun y => PyData.eqv y.py (D.lst ((dueI cs i).map .int)).py) = false := by
          rw [List.any_eq_false]
          intro y hy
          obtain ⟨x, hx, rfl⟩ := List.mem_map.mp hy
          rw [ev x, decide_eq_true_eq]
          exact low_none hi hl x (hall x hx)
        rw [hl] at hq
        simp [any, okr, okI]
        simpa [wrdD] using hq
      | some cs' =>
        obtain ⟨hh, hp⟩ := low_his hcs hl
        have hm := hin cs' hh
        have any : ((fs.map fun cs => natsL (prof cs)).any fun y => PyData.eqv y.py (D.lst ((dueI cs i).map .int)).py) = true := by
          rw [List.any_eq_true]
          exact ⟨_, List.mem_map.mpr ⟨cs', hm, rfl⟩, by rw [ev cs', decide_eq_true_eq]; exact hp⟩
        obtain ⟨b, hb, hb1, hb2⟩ : ∃ b, ∃ h : b < fs.length, (prof fs[b]).map (fun n : Nat => (n : Int)) = dueI cs i ∧ ∀ m (h : m < fs.length), m < b → (prof fs[m]).map (fun n : Nat => (n : Int)) ≠ dueI cs i := by
          have hf : ∃ x ∈ fs, decide ((prof x).map (fun n : Nat => (n : Int)) = dueI cs i) = true := ⟨_, hm, by simpa using hp⟩
          cases q : fs.findIdx? (fun x => decide ((prof x).map (fun n : Nat => (n : Int)) = dueI cs i)) with
          | none =>
            obtain ⟨x, hx, hp⟩ := hf
            rw [List.findIdx?_eq_none_iff.mp q x hx] at hp
            cases hp
          | some b =>
            obtain ⟨h1, h2, h3⟩ := List.findIdx?_eq_some_iff_getElem.mp q
            exact ⟨b, h1, by simpa using h2, fun m hm hlt => by simpa using h3 m hlt⟩
        have hkg : fs[b] = cs' := by
          have hc := hall fs[b] (List.getElem_mem hb)
          refine prof_inj (by rw [hc.1, hh.1]) ?_
          have := hb1.trans hp.symm
          exact List.map_inj_right (fun x y h => by omega) |>.mp this
        rw [hl] at hq
        simp [any, okr, okI]
        refine ⟨b, _, ⟨fs[b], List.getElem?_eq_getElem hb, rfl⟩, by rw [ev, hb1]; simp, fun m z hm x hx hz => ?_, _, ⟨fs[b], List.getElem?_eq_getElem hb, rfl⟩, ?_⟩
        · obtain ⟨hml, e0⟩ := List.getElem?_eq_some_iff.mp hx
          rw [← hz, ev, ← e0]
          have := hb2 m hml hm
          simpa using this
        · rw [hkg]
          refine ⟨cs', rfl, ⟨fun p hp => (okc _ hh p hp).1, fun p hp => by have := (okc _ hh p hp).2; omega⟩, by have := strC_len (cs := cs'); rw [hh.1] at this; omega, ?_⟩
          simpa [wrdD] using hq
  · rintro d ds ρ X ⟨j, m, v8, g1, g2, rfl, n8⟩ hX
    cases m with
    | zero => cases g2
    | succ m =>
      rw [rangeD_consA] at g2
      obtain ⟨rfl, rfl⟩ : d = .int (((strC (cs.take i)).length + j : Nat) : Int) ∧ ds = rangeD ((((strC (cs.take i)).length + j : Nat) : Int) + 1) m := by simpa using g2
      have lj : (P ++ (List.replicate j ((k : Int) - 1) ++ (List.replicate (m + 1) (k : Int) ++ R)))[(strC (cs.take i)).length + j]? = some (k : Int) := by
        rw [← lP, List.getElem?_append_right (by omega), Nat.add_sub_cancel_left, List.getElem?_append_right (by simp), List.length_replicate, Nat.sub_self, List.replicate_succ]
        rfl
      have hset := set_mid (P := P) (T := List.replicate m (k : Int) ++ R) (x := (k : Int) - 1) (y := (k : Int)) (j := j)
      rw [lP] at hset
      have key := hX [.dat (.lst (fs.map chsD)), .dat (.lst (fs.map fun cs => natsL (prof cs))), .dat (.int (a : Nat)), .dat (.int (i : Nat)), .dat (.int ((strC (cs.take i)).length : Nat)), .dat (.str (sgn c)), .dat (.int (k : Nat)), .own false ((P ++ (List.replicate (j + 1) ((k : Int) - 1) ++ (List.replicate m (k : Int) ++ R))).map .int), .dat (.int (((strC (cs.take i)).length + j : Nat) : Int))] ⟨j + 1, m, _, by omega, by push_cast; rfl, rfl, trivial⟩
      rw [← hset] at key
      rw [List.replicate_succ, List.cons_append] at lj ⊢
      have ll : (strC (cs.take i)).length + j < (P ++ (List.replicate j ((k : Int) - 1) ++ (k : Int) :: (List.replicate m (k : Int) ++ R))).length := (List.getElem?_eq_some_iff.mp lj).1
      generalize P ++ (List.replicate j ((k : Int) - 1) ++ (k : Int) :: (List.replicate m (k : Int) ++ R)) = L at lj key ll ⊢
      generalize (strC (cs.take i)).length + j = b at lj key ll ⊢
      simp [okV_of n8]
      refine ⟨.int (k : Nat), ⟨_, lj, rfl⟩, ?_⟩
      simp
      refine ⟨b, by simp [ixN, ll], ?_⟩
      simpa using key
/-! ### repr of blocks tells them apart -/
/-- the code points of repr of a sign -/
def rpC (c : Nat) : List Nat := if c = 39 then [34, 39, 34] else if c = 92 then [39, 92, 92, 39] else [39, c, 39]
theorem shown_sgn {c : Nat} (h : symC c) : (D.str (sgn c)).py.shown.cps.toList = rpC c := by
  have all : ∀ c : Fin 127, 32 ≤ c.1 → (D.str (sgn c.1)).py.shown.cps.toList = rpC c.1 := by decide +kernel
  exact all ⟨c, by have := h.2.1; omega⟩ (by have := h.1; simp only; omega)
theorem shown_dig {k : Nat} (h : k ≤ 9) : (D.int (k : Nat)).py.shown.cps.toList = [48 + k] := by
  have all : ∀ k : Fin 10, (D.int ((k.1 : Nat) : Int)).py.shown.cps.toList = [48 + k.1] := by decide +kernel
  exact all ⟨k, by omega⟩
theorem rpC_pre {a b : Nat} {X Y : List Nat} (h : rpC a ++ 44 :: X = rpC b ++ 44 :: Y) : a = b ∧ X = Y := by
  unfold rpC at h
  by_cases a1 : a = 39 <;> by_cases b1 : b = 39 <;> by_cases a2 : a = 92 <;> by_cases b2 : b = 92 <;> simp [a1, b1, a2, b2] at h ⊢ <;> omega
theorem shown_tup {b : Nat × Nat × Int} {k n : Nat} (hb : b = (b.1, k, (n : Int))) (hc : symC b.1) (hk : k ≤ 9) (hn : n ≤ 9) : (blkD b).py.shown.cps.toList = 40 :: (rpC b.1 ++ 44 :: 32 :: (48 + k) :: 44 :: 32 :: (48 + n) :: [41]) := by
  rw [hb]
  have e1 := shown_sgn hc
  have e2 := shown_dig hk
  have e3 := shown_dig hn
  simp only [D.py] at e1 e2 e3
  simp [blkD, pieD, D.py, D.pyL, PyData.shown, PyData.shownAll] at e1 e2 e3 ⊢
  generalize reprText (sgn b.1) = x at e1 ⊢
  generalize Str.ofString (k : Int).repr = y at e2 ⊢
  generalize Str.ofString (n : Int).repr = z at e3 ⊢
  have app : ∀ u v : Str, (u ++ v).cps.toList = u.cps.toList ++ v.cps.toList := fun u v => by
    show (u.cps ++ v.cps).toList = _
    simp
  have e : tupleText [x, y, z] = ("(" : Str) ++ (x ++ ", " ++ (y ++ ", " ++ z)) ++ (")" : Str) := by rfl
  have o1 : ("(" : Str).cps.toList = [40] := by decide +kernel
  have o2 : (", " : Str).cps.toList = [44, 32] := by decide +kernel
  have o3 : (")" : Str).cps.toList = [41] := by decide +kernel
  rw [e, app, app, app, app, app, app, e1, e2, e3, o1, o2, o3]
  simp
def smB (b : Nat × Nat × Int) : Prop := symC b.1 ∧ b.2.1 ≤ 9 ∧ 0 ≤ b.2.2 ∧ b.2.2 ≤ 9
def itC (b : Nat × Nat × Int) : List Nat := 40 :: (rpC b.1 ++ 44 :: 32 :: (48 + b.2.1) :: 44 :: 32 :: (48 + b.2.2.toNat) :: [41])
theorem shown_it {b : Nat × Nat × Int} (h : smB b) : (blkD b).py.shown.cps.toList = itC b := by
  have := shown_tup (b := b) (k := b.2.1) (n := b.2.2.toNat) (by rw [show ((b.2.2.toNat : Nat) : Int) = b.2.2 by have := h.2.2.1; omega]) h.1 h.2.1 (by have := h.2.2; omega)
  exact this
theorem itC_pre {a b : Nat × Nat × Int} {X Y : List Nat} (ha : smB a) (hb : smB b) (h : itC a ++ X = itC b ++ Y) : a = b ∧ X = Y := by
  unfold itC at h
  simp only [List.cons_append, List.append_assoc, List.nil_append, List.cons.injEq, true_and] at h
  obtain ⟨h1, h2⟩ := rpC_pre h
  simp only [List.cons.injEq, true_and] at h2
  obtain ⟨h3, h4, h5⟩ := h2
  obtain ⟨a1, a2, a3⟩ := a
  obtain ⟨b1, b2, b3⟩ := b
  obtain ⟨-, -, p1, p2⟩ := ha
  obtain ⟨-, -, p3, p4⟩ := hb
  simp only at h1 h3 h4 p1 p2 p3 p4
  refine ⟨?_, h5⟩
  rw [h1, show a2 = b2 by omega, show a3 = b3 by omega]
theorem textFrom_cps : ∀ (ts : List Str) (k : Nat) (acc : Str), (textFrom (k + 1) acc ts).cps.toList = acc.cps.toList ++ ts.flatMap fun t => 44 :: 32 :: t.cps.toList
  | [], k, acc => by simp [textFrom]
  | t :: r, k, acc => by
    have app : ∀ u v : Str, (u ++ v).cps.toList = u.cps.toList ++ v.cps.toList := fun u v => by
      show (u.cps ++ v.cps).toList = _
      simp
    have o2 : (Str.ofString ", ").cps.toList = [44, 32] := by decide +kernel
    rw [textFrom, textFrom_cps r (k + 1), app, app, if_pos (by omega), o2]
    simp
/-- repr tells lists of blocks apart -/
theorem flat_inj : ∀ {xs ys : Bx}, (∀ b ∈ xs, smB b) → (∀ b ∈ ys, smB b) → ((xs.flatMap fun b => 44 :: 32 :: itC b) ++ [93] = (ys.flatMap fun b => 44 :: 32 :: itC b) ++ [93]) → xs = ys
  | [], [], _, _, _ => rfl
  | [], b :: ys, _, _, h => by simp at h
  | a :: xs, [], _, _, h => by simp at h
  | a :: xs, b :: ys, hx, hy, h => by
    simp only [List.flatMap_cons, List.cons_append, List.append_assoc, List.cons.injEq, true_and] at h
    obtain ⟨h1, h2⟩ := itC_pre (hx a (by simp)) (hy b (by simp)) h
    rw [h1, flat_inj (fun x h => hx x (by simp [h])) (fun x h => hy x (by simp [h])) h2]
theorem shown_blks {xs : Bx} (h : ∀ b ∈ xs, smB b) : (D.lst (xs.map blkD)).py.shown.cps.toList = 91 :: ((match xs with | [] => [] | b :: r => itC b ++ r.flatMap fun b => 44 :: 32 :: itC b) ++ [93]) := by
  have app : ∀ u v : Str, (u ++ v).cps.toList = u.cps.toList ++ v.cps.toList := fun u v => by
    show (u.cps ++ v.cps).toList = _
    simp
  have o1 : ("[" : Str).cps.toList = [91] := by decide +kernel
  have o3 : ("]" : Str).cps.toList = [93] := by decide +kernel
  have o0 : (Str.ofString "").cps.toList = [] := by decide +kernel
  have fl : ∀ r : Bx, (∀ b ∈ r, smB b) → (PyData.shownAll (D.pyL (r.map blkD))).flatMap (fun t => 44 :: 32 :: t.cps.toList) = r.flatMap fun b => 44 :: 32 :: itC b := fun r hr => by
    induction r with
    | nil => rfl
    | cons b r ih => simp only [List.map_cons, D.pyL, PyData.shownAll, List.flatMap_cons, shown_it (hr b (by simp)), ih fun x hx => hr x (by simp [hx])]
  simp only [D.py, PyData.shown, listText]
  rw [app, o3]
  cases xs with
  | nil => simp [D.pyL, PyData.shownAll, textFrom, o1]
  | cons b r =>
    simp only [List.map_cons, D.pyL, PyData.shownAll]
    rw [textFrom, textFrom_cps, app, app, if_neg (by omega), o0, o1, fl r fun x hx => h x (by simp [hx]), shown_it (h b (by simp))]
    simp
theorem shown_inj {xs ys : Bx} (hx : ∀ b ∈ xs, smB b) (hy : ∀ b ∈ ys, smB b) (h : (D.lst (xs.map blkD)).py.shown = (D.lst (ys.map blkD)).py.shown) : xs = ys := by
  have h2 : (D.lst (xs.map blkD)).py.shown.cps.toList = (D.lst (ys.map blkD)).py.shown.cps.toList := by rw [h]
  rw [shown_blks hx, shown_blks hy] at h2
  have h3 := (List.cons.inj h2).2
  cases xs with
  | nil => cases ys with
    | nil => rfl
    | cons b r => simp [itC] at h3
  | cons a r => cases ys with
    | nil => simp [itC] at h3
    | cons b s =>
      simp only [List.append_assoc] at h3
      obtain ⟨e1, e2⟩ := itC_pre (hx a (by simp)) (hy b (by simp)) h3
      rw [e1, flat_inj (fun x h => hx x (by simp [h])) (fun x h => hy x (by simp [h])) e2]
theorem shown_word {xs : Bx} (hx : ∀ b ∈ xs, smB b) : (D.lst (xs.map blkD)).py.shown ≠ (D.str (Str.ofString "none")).py.shown := fun h => by
  have h2 : (D.lst (xs.map blkD)).py.shown.cps.toList = (D.str (Str.ofString "none")).py.shown.cps.toList := by rw [h]
  rw [shown_blks hx, show (D.str (Str.ofString "none")).py.shown.cps.toList = [39, 110, 111, 110, 101, 39] by decide +kernel] at h2
  have := (List.cons.inj h2).1
  omega
/-! ### blocks of short histories are small -/
theorem chrs_blk29 {cs : Ch} : chrs (blocksC cs) = cs := by
  have go : ∀ (cs : Ch) (bs : Bx), (∀ b ∈ bs, 1 ≤ b.2.2) → chrs (cs.foldl (fun bs p => addB bs p.1 p.2 1) bs) = chrs bs ++ cs := by
    intro cs
    induction cs with
    | nil => intro bs _; simp
    | cons p r ih =>
      intro bs hb
      rw [List.foldl_cons, ih _ (add_pos1 hb), chrs_add hb (by omega)]
      simp
  show chrs (cs.foldl (fun bs p => addB bs p.1 p.2 1) []) = cs
  rw [go cs [] (by simp)]
  simp [chrs]
theorem cut_at {xs : List D} {j : Nat} : cutD xs (some (j : Int)) (some ((j : Int) + 1)) = (xs[j]?).toList := by
  unfold cutD
  rw [show ((j : Int) + 1) = ((j + 1 : Nat) : Int) by push_cast; rfl, HT.sIx_nat, HT.sIx_nat]
  rcases Nat.lt_or_ge j xs.length with h | h
  · rw [Nat.min_eq_left (by omega), Nat.min_eq_left (by omega), List.drop_eq_getElem_cons h, show j + 1 - j = 1 by omega, List.getElem?_eq_getElem h]
    rfl
  · rw [Nat.min_eq_right h, Nat.min_eq_right (by omega), Nat.sub_self, List.getElem?_eq_none h]
    rfl
theorem sm_blocks {l : List Nat} {e : Nat} {cs : Ch} (hs : ∀ c ∈ l, symC c) (hl : l.length ≤ 9) (he : e ≤ 9) (h : HisC l e cs) : ∀ b ∈ blocksC cs, smB b := by
  intro b hb
  have okc : ChOk cs := ⟨fun p hp => hs p.1 (by rw [← h.1]; exact strC_mem hp), fun p hp => by have := desc_le h.2 p hp; omega⟩
  have gl : cs.length ≤ 9 := by have := strC_len (cs := cs); rw [h.1] at this; omega
  obtain ⟨g1, g2, g3, g4, g5, g6, g7⟩ := blocksC_ok (cs := cs) rfl (by omega) okc
  obtain ⟨p, hp, e1, e2⟩ := g6 b hb
  have h1 := g5 b hb
  have h2 := (g1 e h.2).pos b hb
  refine ⟨by rw [← e1]; exact okc.1 p hp, by have := desc_le h.2 p hp; omega, by omega, by omega⟩
theorem wrd_iff {l : List Nat} {e : Nat} {cs : Ch} {o : Option Ch} (hs : ∀ c ∈ l, symC c) (hl : l.length ≤ 9) (he : e ≤ 9) (ho : ∀ c, o = some c → HisC l e c) (hc : HisC l e cs) : (wrdD o).py.shown = (D.lst ((blocksC cs).map blkD)).py.shown ↔ o = some cs := by
  have s1 := sm_blocks hs hl he hc
  constructor
  · intro h
    cases o with
    | none => exact absurd h.symm (shown_word s1)
    | some c =>
      have s2 := sm_blocks hs hl he (ho c rfl)
      have := shown_inj s2 s1 h
      have e2 : chrs (blocksC c) = chrs (blocksC cs) := by rw [this]
      rw [chrs_blk29, chrs_blk29] at e2
      rw [e2]
  · intro h
    rw [h]
    rfl
theorem itC_lt {b : Nat × Nat × Int} (h : smB b) : ∀ x ∈ itC b, x < 1114112 := by
  obtain ⟨h1, h2, h3, h4⟩ := h
  have := h1.2.1
  intro x hx
  unfold itC rpC at hx
  split at hx
  · simp at hx; omega
  · split at hx <;> simp at hx <;> omega
theorem all_cps {s : Str} {L : List Nat} (e : s.cps.toList = L) (h : ∀ x ∈ L, x < 1114112) {nd : Bool} : (D.str s).sok nd = true := by
  simp only [D.sok]
  rw [Array.all_eq_true_iff_forall_mem]
  intro x hx
  have := h x (by rw [← e]; exact Array.mem_toList_iff.mpr hx)
  simpa using this
theorem wrd_sok {l : List Nat} {e : Nat} {o : Option Ch} (hs : ∀ c ∈ l, symC c) (hl : l.length ≤ 9) (he : e ≤ 9) (ho : ∀ c, o = some c → HisC l e c) {nd : Bool} : (D.str (wrdD o).py.shown).sok nd = true := by
  cases o with
  | none => exact all_cps (L := [39, 110, 111, 110, 101, 39]) (by decide +kernel) (by decide)
  | some c =>
    have s1 := sm_blocks hs hl he (ho c rfl)
    refine all_cps (shown_blks s1) fun x hx => ?_
    rcases List.mem_cons.mp hx with rfl | hx
    · omega
    rcases List.mem_append.mp hx with hx | hx
    · generalize blocksC c = bs at s1 hx
      cases bs with
      | nil => cases hx
      | cons b r =>
        simp only [List.mem_append, List.mem_flatMap, List.mem_cons] at hx
        rcases hx with hx | ⟨b', hb', rfl | rfl | hx⟩
        · exact itC_lt (s1 b (by simp)) x hx
        · omega
        · omega
        · exact itC_lt (s1 b' (by simp [hb'])) x hx
    · rw [List.mem_singleton.mp hx]; omega
/-! ### w_right -/
theorem prof_take {cs : Ch} : ((prof cs).map (fun n : Nat => (n : Int))).take 1 = (cs.take 1).map fun p => ((p.2 : Nat) : Int) := by
  cases cs with
  | nil => rfl
  | cons p r =>
    have h1 := (escC_len (k := p.2) (c := p.1)).1
    obtain ⟨m, hm⟩ : ∃ m, (escC p.2 p.1).length = m + 1 := ⟨(escC p.2 p.1).length - 1, by omega⟩
    simp [prof, hm, List.replicate_succ]
theorem first_le {l : List Nat} {e : Nat} {cs : Ch} (h : HisC l (e + 1) cs) (hb : lexI ((cs.take 1).map fun p => ((p.2 : Nat) : Int)) [(e : Int)] = true) : HisC l e cs := by
  refine ⟨h.1, ?_⟩
  cases cs with
  | nil => trivial
  | cons p r =>
    refine ⟨?_, h.2.2⟩
    simp [lexI] at hb
    omega
/-- what the law expects of each character lowered -/
def lowRow (cs : Ch) : D := .lst ((List.range cs.length).map fun i => .str (wrdD (lowC cs i)).py.shown)
def c_w_right : Ctr := fun ρ Q _ => ∃ (b : Nat) (r : List D) (l : List Nat) (e : Nat), ρ = [.own true r, .dat (.str (strL l)), .dat (.int (e : Nat))] ∧ (∀ c ∈ l, symC c) ∧ l.length ≤ 7 ∧ e ≤ 2 ∧ Bag (b + 2000) r ∧ ∀ r', Bag b r' → Q (.dat (.bl true)) [.own true r', .dat (.str (strL l)), .dat (.int (e : Nat))]
theorem wrd_shOk {l : List Nat} {e i : Nat} {cs : Ch} (hs : ∀ c ∈ l, symC c) (hl : l.length ≤ 12) (he : e ≤ 3) (h : HisC l e cs) : (wrdD (lowC cs i)).shOk := by
  cases hq : lowC cs i with
  | none => exact shOk_of (by decide +kernel) (by decide +kernel) (by decide +kernel)
  | some cs' =>
    have hh := (low_his h hq).1
    have okc : ChOk cs' := ⟨fun p hp => hs p.1 (by rw [← hh.1]; exact strC_mem hp), fun p hp => by have := desc_le hh.2 p hp; omega⟩
    have gl : cs'.length ≤ 12 := by have := strC_len (cs := cs'); rw [hh.1] at this; omega
    obtain ⟨g1, -, g3, -⟩ := blocksC_ok (cs := cs') rfl (by omega) okc
    have hx := show IsHx (D.lst ((blocksC cs').map blkD)) (blocksC cs') from ⟨rfl, g1 e hh.2⟩
    show (D.lst ((blocksC cs').map blkD)).shOk
    exact shOk_of hx.sok (by have := hx.wt; omega) (by have := hx.dep; omega)
theorem wrdO_shOk {l : List Nat} {e : Nat} {o : Option Ch} (hs : ∀ c ∈ l, symC c) (hl : l.length ≤ 12) (he : e ≤ 3) (ho : ∀ c, o = some c → HisC l e c) : (wrdD o).shOk := by
  cases o with
  | none => exact shOk_of (by decide +kernel) (by decide +kernel) (by decide +kernel)
  | some cs' =>
    have hh := ho cs' rfl
    have okc : ChOk cs' := ⟨fun p hp => hs p.1 (by rw [← hh.1]; exact strC_mem hp), fun p hp => by have := desc_le hh.2 p hp; omega⟩
    have gl : cs'.length ≤ 12 := by have := strC_len (cs := cs'); rw [hh.1] at this; omega
    obtain ⟨g1, -, g3, -⟩ := blocksC_ok (cs := cs') rfl (by omega) okc
    have hx := show IsHx (D.lst ((blocksC cs').map blkD)) (blocksC cs') from ⟨rfl, g1 e hh.2⟩
    show (D.lst ((blocksC cs').map blkD)).shOk
    exact shOk_of hx.sok (by have := hx.wt; omega) (by have := hx.dep; omega)
theorem low_out {c : Ch} {j : Nat} (h : ¬ j < c.length) : lowC c j = none := by
  unfold lowC
  rw [List.getElem?_eq_none (by omega)]
theorem str1_ok {s : Str} (h : (D.str s).sok true = true) : (D.lst [D.str s]).eqOk := eqOk_of (by simp only [D.sok, D.sokL] at h ⊢; simp [h]) (by simp [D.dep, D.depL])
theorem str1_eq {s t : Str} : PyData.eqv (D.lst [D.str s]).py (D.lst [D.str t]).py = decide (s = t) := by
  simp only [D.py, D.pyL, PyData.eqv, PyData.eqvAll, Bool.and_true]
  by_cases h : s = t
  · rw [h]; simp
  · rw [decide_eq_false h]; exact beq_eq_false_iff_ne.mpr h
theorem nil1_eq {t : Str} : PyData.eqv (D.lst []).py (D.lst [D.str t]).py = false := by
  simp [D.py, D.pyL, PyData.eqv, PyData.eqvAll]
/-- w_right, slots ['l_bag_here', 'l_string_here', 'l_escapes', 'l_some', 'l_rows', 'l_one', 'l_lower', 'l_number', 'l_at', 'l_passed', 'l_kept', 'l_own', 'l_found', 'l_higher', 'l_other', 'l_due_here']; lends ['l_bag_here']; gives dat -/
def b_w_right : AS := sSeq (sAsg (aDef c_a_all [] (rDat (aVar 1) (rDat (aOp bAddB (aVar 2) (aC (.int 1))) (rNil)))) (agName 3))
  (sSeq (sAsg (aFrz (oLc (iAny (aVar 3)) (agName 5) (aYes) (aDef c_m_profile [] (rDat (aVar 5) (rNil))) [5])) (agName 4))
  (sSeq (sAsg (aFrz (oLc (iRange1 (aCons (aCall bLen (aCons (aVar 3) (aNil))) (aNil))) (agName 5) (aYes) (aFrz (oLc (iRange1 (aCons (aCall bLen (aCons (aOp bIx (aVar 3) (aVar 5)) (aNil))) (aNil))) (agName 7) (aYes) (aCall bRepr (aCons (aDef c_w_due [] (rDat (aVar 3) (rDat (aVar 4) (rDat (aVar 5) (rDat (aVar 7) (rNil)))))) (aNil))) [7])) [5])) (agName 6))
  (sSeq (sFor (iAny (aSl (aDef c_l_shuffled [] (rIo 0 (rDat (aFrz (oLc (iRange1 (aCons (aCall bLen (aCons (aVar 3) (aNil))) (aNil))) (agName 8) (tCmpE bLeL (aSl (aOp bIx (aVar 4) (aVar 8)) (aNoP) (aPart (aC (.int 1)))) (aFrz (oLst (aCons (aVar 2) (aNil))))) (aVar 8) [8])) (rNil)))) (aNoP) (aPart (aC (.int 10))))) (agName 5) (sSeq (sAsg (aDef c_o_dressed [] (rIo 0 (rDat (aDef c_a_blocks [] (rDat (aOp bIx (aVar 3) (aVar 5)) (rNil))) (rNil)))) (agName 9))
  (sSeq (sAsg (aTup (aCons (aCall bRepr (aCons (aVar 9) (aNil))) (aCons (aCall bRepr (aCons (aDef c_a_blocks [] (rDat (aOp bIx (aVar 3) (aVar 5)) (rNil))) (aNil))) (aNil)))) (agTup (agCons (agName 10) (agCons (agName 11) (agNil)))))
  (sFor (iRange1 (aCons (aCall bLen (aCons (aOp bIx (aVar 3) (aVar 5)) (aNil))) (aNil))) (agName 7) (sSeq (sAsg (aFrz (oLst (aCons (aDef c_w_low [] (rDat (aVar 9) (rDat (aVar 7) (rNil)))) (aCons (aDef c_w_high [] (rDat (aVar 9) (rDat (aVar 7) (rNil)))) (aNil))))) (agName 12))
  (sSeq (sAsg (aFrz (oLc (iRange1 (aCons (aCall bLen (aCons (aVar 3) (aNil))) (aNil))) (agName 14) (tCmpE bEq (aSl (aOp bIx (aVar 6) (aVar 14)) (aPart (aVar 7)) (aPart (aOp bAddB (aVar 7) (aC (.int 1))))) (aFrz (oLst (aCons (aVar 11) (aNil))))) (aVar 14) [14])) (agName 13))
  (sSeq (sAsg (aIfE (tCmpV bNe (vVar 13) (vLst (vNil))) (aDef c_a_blocks [] (rDat (aOp bIx (aVar 3) (aOp bIx (aVar 13) (aC (.int 0)))) (rNil))) (aC (.str "none"))) (agName 15))
  (sIf (aOr (tCmpV bNe (vCall bRepr (vCons (vOp bIx (vVar 12) (vC (.int 0))) (vNil))) (vOp bIx (vOp bIx (vVar 6) (vVar 5)) (vVar 7))) (aOr (tCmpV bNe (vCall bRepr (vCons (vOp bIx (vVar 12) (vC (.int 1))) (vNil))) (vCall bRepr (vCons (vVar 15) (vNil)))) (tCmpV bNe (vCall bRepr (vCons (vVar 9) (vNil))) (vVar 10)))) (sRet (aC (.bl false))) (sNx)))))))))
  (sRet (aC (.bl true))))))
theorem p_w_right : Sat 3 16 b_w_right c_w_right := by
  intro ρ Q Z hl h
  obtain ⟨b, r, l, e, rfl, hs, hlen, he, hr, hq⟩ := h
  unfold b_w_right
  simp [endsA, -q_sSeq]
  refine seq_hide fun u hu => ?_
  simp
  refine ⟨l, e + 1, by simp, hs, by omega, by omega, fun fs hfs => ?_⟩
  have hfl : fs.length ≤ 455 := by rw [hfs.length_eq]; exact comp_len12 (by omega) (by omega)
  have hall : ∀ cs ∈ fs, HisC l (e + 1) cs := fun cs hc => (mem_comp (n := l.length) (Nat.le_refl _)).mp (hfs.mem_iff.mp hc)
  have hin : ∀ cs, HisC l (e + 1) cs → cs ∈ fs := fun cs hc => hfs.mem_iff.mpr ((mem_comp (n := l.length) (Nat.le_refl _)).mpr hc)
  have okc : ∀ cs, HisC l (e + 1) cs → ∀ p ∈ cs, symC p.1 ∧ p.2 ≤ 10 := fun cs h p hp => ⟨hs p.1 (by rw [← h.1]; exact strC_mem hp), by have := desc_le h.2 p hp; omega⟩
  simp
  subst hu
  refine seq_hide fun u hu => ?_
  simp
  refine comp_of (fun ds acc ρ => ∃ dn us : List Ch, fs = dn ++ us ∧ ds = us.map chsD ∧ acc = dn.map (fun cs => natsL (prof cs)) ∧ ρ = [.own true r, .dat (.str (strL l)), .dat (.int (e : Nat)), .dat (.lst (fs.map chsD)), .un, .un, .un, .un, .un, .un, .un, .un, .un, .un, .un, .un]) ?_ ?_ _ _ _ ⟨[], fs, rfl, rfl, rfl, rfl⟩
  · rintro acc ρ ⟨dn, us, e1, e2, rfl, rfl⟩
    have : us = [] := by cases us with
      | nil => rfl
      | cons _ _ => cases e2
    subst this
    rw [List.append_nil] at e1
    subst e1
    simp
    subst hu
    refine seq_hide fun u hu => ?_
    simp
    refine ⟨by omega, ?_⟩
    refine comp_of (fun ds acc ρ => ∃ dn us : List Ch, fs = dn ++ us ∧ ds = rangeD (dn.length : Int) us.length ∧ acc = dn.map lowRow ∧ ρ = [.own true r, .dat (.str (strL l)), .dat (.int (e : Nat)), .dat (.lst (fs.map chsD)), .dat (.lst (fs.map fun cs => natsL (prof cs))), .un, .un, .un, .un, .un, .un, .un, .un, .un, .un, .un]) ?_ ?_ _ _ _ ⟨[], fs, rfl, rfl, rfl, rfl⟩
    · rintro acc ρ ⟨dn, us, e1, e2, rfl, rfl⟩
      have : us = [] := by cases us with
        | nil => rfl
        | cons _ _ => simp only [List.length_cons] at e2; rw [rangeD_consA] at e2; cases e2
      subst this
      rw [List.append_nil] at e1
      subst e1
      simp
      subst hu
      refine seq_hide fun u hu => ?_
      simp
      refine ⟨by omega, ?_⟩
      refine comp_of (fun ds acc ρ => ∃ (dn us : List Ch) (as : List Nat), fs = dn ++ us ∧ ds = rangeD (dn.length : Int) us.length ∧ acc = as.map (fun (a : Nat) => D.int (a : Nat)) ∧ as.length ≤ dn.length ∧ (∀ a ∈ as, ∃ cs, fs[a]? = some cs ∧ HisC l e cs) ∧ ρ = [.own true r, .dat (.str (strL l)), .dat (.int (e : Nat)), .dat (.lst (fs.map chsD)), .dat (.lst (fs.map fun cs => natsL (prof cs))), .un, .dat (.lst (fs.map lowRow)), .un, .un, .un, .un, .un, .un, .un, .un, .un]) ?_ ?_ _ _ _ ⟨[], fs, [], rfl, rfl, rfl, Nat.le_refl _, by simp, rfl⟩
      · rintro acc ρ ⟨dn, us, as, e1, e2, rfl, hal, has, rfl⟩
        have : us = [] := by cases us with
          | nil => rfl
          | cons _ _ => simp only [List.length_cons] at e2; rw [rangeD_consA] at e2; cases e2
        subst this
        rw [List.append_nil] at e1
        subst e1
        simp
        refine ⟨b + 200, r, as.map fun (a : Nat) => D.int (a : Nat), rfl, by rw [List.length_map]; omega, hr.mono (by rw [List.length_map]; omega), fun r3 ys hr3 hp => ?_⟩
        simp
        refine loop_of (fun ds ρ => ∃ (r : List D) (v5 v7 v9 v10 v11 v12 v13 v15 : Sv), ρ = [.own true r, .dat (.str (strL l)), .dat (.int (e : Nat)), .dat (.lst (fs.map chsD)), .dat (.lst (fs.map fun cs => natsL (prof cs))), v5, .dat (.lst (fs.map lowRow)), v7, .un, v9, v10, v11, v12, v13, .un, v15] ∧ noV v5 ∧ noV v7 ∧ noV v9 ∧ noV v10 ∧ noV v11 ∧ noV v12 ∧ noV v13 ∧ noV v15 ∧ Bag (b + 20 * ds.length) r ∧ ∀ x ∈ ds, ∃ (a : Nat) (cs : Ch), x = .int (a : Nat) ∧ fs[a]? = some cs ∧ HisC l e cs) ?_ ?_ _ _ ⟨r3, .un, .un, .un, .un, .un, .un, .un, .un, rfl, trivial, trivial, trivial, trivial, trivial, trivial, trivial, trivial, hr3.mono ?_, fun x hx => ?_⟩
        · rintro ρ ⟨r, v5, v7, v9, v10, v11, v12, v13, v15, rfl, -, -, -, -, -, -, -, -, hb, -⟩
          show u _ _
          subst hu
          simp
          exact hq r (by simpa using hb)
        · rintro d ds ρ X ⟨r, v5, v7, v9, v10, v11, v12, v13, v15, rfl, n5, n7, n9, n10, n11, n12, n13, n15, hb, hx⟩ hX
          obtain ⟨a, cs, rfl, hat, hcs⟩ := hx d (by simp)
          have hcs1 := hall cs (List.mem_of_getElem? hat)
          simp only [List.length_cons] at hb
          simp [-q_sSeq, okV_of n5]
          refine seq_hide fun w hw => ?_
          have hcl : cs.length ≤ 7 := by have := strC_len (cs := cs); rw [hcs.1] at this; omega
          have hco : ChOk cs := ⟨fun p hp => (okc cs hcs1 p hp).1, fun p hp => by have := (okc cs hcs1 p hp).2; omega⟩
          obtain ⟨b1, b2, b3, b4, b5, b6, b7⟩ := blocksC_ok (cs := cs) rfl (by omega) hco
          have hH := b1 e hcs.2
          simp
          have lpb : ((blocksC cs).map blkD).length = (blocksC cs).length := List.length_map ..
          refine ⟨chsD cs, ⟨cs, hat, rfl⟩, ?_⟩
          refine ⟨cs, rfl, hco, by omega, ?_⟩
          simp
          refine ⟨b + 20 * ds.length, r, (blocksC cs).map blkD, rfl, fun x hx => ?_, by omega, hb.mono (by omega), fun r4 v' ys' hr4 hv hys => ?_⟩
          · obtain ⟨c, hc, rfl⟩ := List.mem_map.mp hx
            exact ⟨_, rfl, by simp⟩
          have hxx := blks_items hH hv hys
          have shv : v'.shOk := shOk_of hxx.sok (by have := hxx.wt; omega) (by have := hxx.dep; omega)
          have hxb := show IsHx (D.lst ((blocksC cs).map blkD)) (blocksC cs) from ⟨rfl, hH⟩
          have shb : (D.lst ((blocksC cs).map blkD)).shOk := shOk_of hxb.sok (by have := hxb.wt; omega) (by have := hxb.dep; omega)
          simp [okV_of n9]
          subst hw
          refine seq_hide fun w hw => ?_
          simp [shv]
          refine ⟨chsD cs, ⟨cs, hat, rfl⟩, ?_⟩
          refine ⟨cs, rfl, hco, by omega, ?_⟩
          simp [shb, okV_of n10, okV_of n11]
          subst hw
          simp
          refine ⟨chsD cs, ⟨cs, hat, rfl⟩, ?_⟩
          have hHB : HB (blocksC cs) := ⟨hH, by omega, by rw [chrs_blk29, hcs.1]; omega⟩
          have hcnt : ∀ Q : D → Prop, bLen [chsD cs] Q = Q (.int (cs.length : Nat)) := fun Q => by
            have : cs.length ≤ 16777216 := by omega
            simp [chsD, this]
          rw [hcnt]
          simp
          refine ⟨by omega, ?_⟩
          refine loop_of (fun ds ρ => ∃ (j i : Nat) (v7 v12 v13 v15 : Sv), j + i = cs.length ∧ ds = rangeD (j : Int) i ∧ ρ = [.own true r4, .dat (.str (strL l)), .dat (.int (e : Nat)), .dat (.lst (fs.map chsD)), .dat (.lst (fs.map fun cs => natsL (prof cs))), .dat (.int (a : Nat)), .dat (.lst (fs.map lowRow)), v7, .un, .dat v', .dat (.str v'.py.shown), .dat (.str (D.lst ((blocksC cs).map blkD)).py.shown), v12, v13, .un, v15] ∧ noV v7 ∧ noV v12 ∧ noV v13 ∧ noV v15) ?_ ?_ _ _ ⟨0, cs.length, v7, v12, v13, v15, by omega, rfl, rfl, n7, n12, n13, n15⟩
          · rintro ρ ⟨j, i, v7, v12, v13, v15, h1, h2, rfl, n7, n12, n13, n15⟩
            exact hX _ ⟨r4, _, _, _, _, _, _, _, _, rfl, trivial, n7, trivial, trivial, trivial, n12, n13, n15, hr4, fun x hx' => hx x (by simp [hx'])⟩
          · rintro d' ds' ρ Y ⟨j, i, v7, v12, v13, v15, h1, h2, rfl, n7, n12, n13, n15⟩ hY
            cases i with
            | zero => cases h2
            | succ i =>
              rw [rangeD_consA] at h2
              obtain ⟨rfl, rfl⟩ : d' = .int (j : Int) ∧ ds' = rangeD ((j : Int) + 1) i := by simpa using h2
              have hj : j < cs.length := by omega
              simp [-q_sSeq, okV_of n7]
              refine seq_hide fun x hx => ?_
              simp
              refine ⟨v', blocksC cs, j, rfl, hxx, hHB, by rw [chrs_blk29]; exact hj, ?_⟩
              rw [chrs_blk29]
              simp
              refine .inl ⟨v', blocksC cs, j, rfl, hxx, hHB, by rw [chrs_blk29]; exact hj, ?_⟩
              rw [chrs_blk29]
              simp [okV_of n12]
              subst hx
              refine seq_hide fun x hx => ?_
              simp
              refine ⟨by omega, ?_⟩
              refine comp_of (fun ds acc ρ => ∃ (dn us : List Ch), fs = dn ++ us ∧ ds = rangeD (dn.length : Int) us.length ∧ acc = ((List.range dn.length).filter fun k => decide ((fs[k]?).bind (fun c => lowC c j) = some cs)).map (fun (k : Nat) => D.int (k : Nat)) ∧ ρ = [.own true r4, .dat (.str (strL l)), .dat (.int (e : Nat)), .dat (.lst (fs.map chsD)), .dat (.lst (fs.map fun cs => natsL (prof cs))), .dat (.int (a : Nat)), .dat (.lst (fs.map lowRow)), .dat (.int (j : Nat)), .un, .dat v', .dat (.str v'.py.shown), .dat (.str (D.lst ((blocksC cs).map blkD)).py.shown), .dat (.lst [wrdD (lowC cs j), wrdD (riseC cs j)]), v13, .un, v15]) ?_ ?_ _ _ _ ⟨[], fs, rfl, rfl, rfl, rfl⟩
              · rintro acc ρ ⟨dn, us, e1, e2, rfl, rfl⟩
                have : us = [] := by cases us with
                  | nil => rfl
                  | cons _ _ => simp only [List.length_cons] at e2; rw [rangeD_consA] at e2; cases e2
                subst this
                rw [List.append_nil] at e1
                subst e1
                have hmem : ∀ k ∈ (List.range fs.length).filter (fun k => decide ((fs[k]?).bind (fun c => lowC c j) = some cs)), ∃ c, fs[k]? = some c ∧ riseC cs j = some c := fun k hk => by
                  have h9 := (List.mem_filter.mp hk).2
                  simp only [decide_eq_true_eq] at h9
                  obtain ⟨c, q1, q2⟩ := Option.bind_eq_some_iff.mp h9
                  exact ⟨c, q1, rise_of (hall c (List.mem_of_getElem? q1)) (by omega) q2⟩
                have hne : ∀ c', riseC cs j = some c' → (List.range fs.length).filter (fun k => decide ((fs[k]?).bind (fun c => lowC c j) = some cs)) ≠ [] := fun c' q => by
                  obtain ⟨q1, q2, q3⟩ := low_of hcs q
                  obtain ⟨k, hk, hk2⟩ := List.mem_iff_getElem.mp (hin c' q1)
                  refine List.ne_nil_of_mem (a := k) (List.mem_filter.mpr ⟨List.mem_range.mpr hk, ?_⟩)
                  rw [List.getElem?_eq_getElem hk, hk2]
                  simpa using q3
                generalize (List.range fs.length).filter (fun k => decide ((fs[k]?).bind (fun c => lowC c j) = some cs)) = ks at hmem hne ⊢
                simp [okV_of n13]
                subst hx
                refine seq_hide fun x hx => ?_
                have okK : (D.lst (ks.map fun (k : Nat) => D.int (k : Nat))).eqOk := by
                  have := eqOk_ints (g := ks.map fun (k : Nat) => (k : Int))
                  rw [List.map_map] at this
                  exact this
                have hres : ∀ o : Option Ch, o = riseC cs j → ∀ c, o = some c → HisC l (e + 1) c := fun o q c q2 => (low_of hcs (by rw [← q, q2])).1
                have shr : (wrdD (riseC cs j)).shOk := wrdO_shOk hs (by omega) (by omega) (hres _ rfl)
                have shl : (wrdD (lowC cs j)).shOk := wrd_shOk hs (by omega) (by omega) hcs1
                have low2 : (fs.map lowRow)[a]? = some (lowRow cs) := by rw [List.getElem?_map, hat]; rfl
                have low3 : ((List.range cs.length).map fun i => D.str (wrdD (lowC cs i)).py.shown)[j]? = some (D.str (wrdD (lowC cs j)).py.shown) := by simp [hj]
                cases ks with
                | nil =>
                  have hrn : riseC cs j = none := by
                    cases q : riseC cs j with
                    | none => rfl
                    | some c' => exact absurd rfl (hne c' q)
                  rw [hrn] at shr ⊢
                  simp [okK, okV_of n15]
                  subst hx
                  simp [shl, shr]
                  refine ⟨D.lst ((List.range cs.length).map fun i => .str (wrdD (lowC cs i)).py.shown), ⟨cs, hat, rfl⟩, ?_⟩
                  simp [hj]
                  exact ⟨shr, shr, .inl ⟨rfl, shv, hY _ ⟨j + 1, i, _, _, _, _, by omega, by simp, rfl, trivial, trivial, trivial, trivial⟩⟩⟩
                | cons k0 kr =>
                  obtain ⟨c0, q1, q2⟩ := hmem k0 (by simp)
                  have hc0 := (low_of hcs q2).1
                  have hco0 : ChOk c0 := ⟨fun p hp => (okc c0 hc0 p hp).1, fun p hp => by have := (okc c0 hc0 p hp).2; omega⟩
                  have hcl0 : c0.length ≤ 7 := by have := strC_len (cs := c0); rw [hc0.1] at this; omega
                  rw [q2] at shr ⊢
                  have okK2 : (D.lst (D.int (k0 : Nat) :: kr.map fun (k : Nat) => D.int (k : Nat))).eqOk := okK
                  simp [okK2]
                  refine ⟨chsD c0, ⟨c0, q1, rfl⟩, ?_⟩
                  refine ⟨c0, rfl, hco0, by omega, ?_⟩
                  simp [okV_of n15]
                  subst hx
                  simp [shl, shr]
                  refine ⟨D.lst ((List.range cs.length).map fun i => .str (wrdD (lowC cs i)).py.shown), ⟨cs, hat, rfl⟩, ?_⟩
                  simp [hj]
                  exact ⟨shr, shr, .inl ⟨rfl, shv, hY _ ⟨j + 1, i, _, _, _, _, by omega, by simp, rfl, trivial, trivial, trivial, trivial⟩⟩⟩
              · rintro d ds acc ρ X ⟨dn, us, e1, e2, rfl, rfl⟩ hX
                cases us with
                | nil => cases e2
                | cons c us =>
                  simp only [List.length_cons] at e2
                  rw [rangeD_consA] at e2
                  obtain ⟨rfl, rfl⟩ : d = .int (dn.length : Int) ∧ ds = rangeD ((dn.length : Int) + 1) us.length := by simpa using e2
                  have hc := hall c (by rw [e1]; simp)
                  have hatc : fs[dn.length]? = some c := by rw [e1]; simp
                  have hlt : dn.length < fs.length := by rw [e1]; simp
                  simp
                  refine ⟨D.lst ((List.range c.length).map fun i => .str (wrdD (lowC c i)).py.shown), ⟨c, hatc, rfl⟩, ?_⟩
                  have hfl2 : ((List.range dn.length).filter fun k => decide ((fs[k]?).bind (fun c => lowC c j) = some cs)).length ≤ dn.length := by
                    have := List.length_filter_le (fun k => decide ((fs[k]?).bind (fun c => lowC c j) = some cs)) (List.range dn.length)
                    simpa using this
                  have okB : (D.lst [D.str (D.lst ((blocksC cs).map blkD)).py.shown]).eqOk := str1_ok (wrd_sok (e := e + 1) (o := some cs) hs (by omega) (by omega) fun c q => by rw [← Option.some.inj q]; exact hcs1)
                  have hsucc : (List.range (dn ++ [c]).length).filter (fun k => decide ((fs[k]?).bind (fun c => lowC c j) = some cs)) = (List.range dn.length).filter (fun k => decide ((fs[k]?).bind (fun c => lowC c j) = some cs)) ++ (if (fs[dn.length]?).bind (fun c => lowC c j) = some cs then [dn.length] else []) := by
                    rw [List.length_append, List.length_singleton, List.range_succ, List.filter_append]
                    congr 1
                    simp [List.filter_cons]
                  simp only [q_kSl3l]
                  rw [cut_at]
                  by_cases hjc : j < c.length
                  · have okA : (D.lst [D.str (wrdD (lowC c j)).py.shown]).eqOk := str1_ok (wrd_sok hs (by omega) (by omega) fun c' q => (low_his hc q).1)
                    have hiff := wrd_iff (o := lowC c j) hs (by omega) (by omega) (fun c' q => (low_his hc q).1) hcs1
                    rw [show ((List.range c.length).map fun i => D.str (wrdD (lowC c i)).py.shown)[j]? = some (D.str (wrdD (lowC c j)).py.shown) by simp [hjc]]
                    simp only [hatc, Option.bind_some] at hsucc
                    simp [okA, okB, str1_eq]
                    by_cases hlc : lowC c j = some cs
                    · rw [if_pos (hiff.mpr hlc)]
                      refine ⟨by omega, hX _ _ ⟨dn ++ [c], us, by simp [e1], by simp, ?_, rfl⟩⟩
                      rw [hsucc, if_pos hlc, List.map_append]
                      rfl
                    · rw [if_neg fun q => hlc (hiff.mp q)]
                      refine hX _ _ ⟨dn ++ [c], us, by simp [e1], by simp, ?_, rfl⟩
                      rw [hsucc, if_neg hlc, List.append_nil]
                  · rw [show ((List.range c.length).map fun i => D.str (wrdD (lowC c i)).py.shown)[j]? = none by rw [List.getElem?_eq_none]; rw [List.length_map, List.length_range]; omega]
                    simp only [hatc, Option.bind_some, low_out hjc] at hsucc
                    simp [okB, nil1_eq]
                    refine hX _ _ ⟨dn ++ [c], us, by simp [e1], by simp, ?_, rfl⟩
                    rw [hsucc]
                    simp
        · have : (cutD ys none (some 10)).length ≤ 10 := by
            rw [show (10 : Int) = ((10 : Nat) : Int) by rfl, cut_take, List.length_take]
            omega
          omega
        · rw [show (10 : Int) = ((10 : Nat) : Int) by rfl, cut_take] at hx
          obtain ⟨a, ha, rfl⟩ := List.mem_map.mp (hp.mem_iff.mp (List.mem_of_mem_take hx))
          obtain ⟨cs, h1, h2⟩ := has a ha
          exact ⟨a, cs, rfl, h1, h2⟩
      · rintro d ds acc ρ X ⟨dn, us, as, e1, e2, rfl, hal, has, rfl⟩ hX
        cases us with
        | nil => cases e2
        | cons cs us =>
          simp only [List.length_cons] at e2
          rw [rangeD_consA] at e2
          obtain ⟨rfl, rfl⟩ : d = .int (dn.length : Int) ∧ ds = rangeD ((dn.length : Int) + 1) us.length := by simpa using e2
          have hc := hall cs (by rw [e1]; simp)
          have hat : fs[dn.length]? = some cs := by rw [e1]; simp
          have hlt : dn.length < fs.length := by rw [e1]; simp
          simp
          refine ⟨D.lst (((prof cs).map fun n : Nat => (n : Int)).map D.int), ⟨cs, hat, rfl⟩, ?_⟩
          simp only [q_kSl3l]
          rw [show cutD (((prof cs).map fun n : Nat => (n : Int)).map D.int) none (some 1) = ((cs.take 1).map fun p => ((p.2 : Nat) : Int)).map D.int by
            rw [show (1 : Int) = ((1 : Nat) : Int) by rfl, cut_take, ← List.map_take, prof_take]]
          simp
          rw [q_bLeL]
          refine ⟨(cs.take 1).map fun p => ((p.2 : Nat) : Int), [(e : Int)], by simp [Function.comp_def], rfl, ?_⟩
          cases hb : lexI ((cs.take 1).map fun p => ((p.2 : Nat) : Int)) [(e : Int)] with
          | true =>
            simp
            refine ⟨by omega, hX _ _ ⟨dn ++ [cs], us, as ++ [dn.length], by simp [e1], by simp, by simp, by simp; omega, fun a ha => ?_, rfl⟩⟩
            rcases List.mem_append.mp ha with ha | ha
            · exact has a ha
            · rw [List.mem_singleton.mp ha]
              exact ⟨cs, hat, first_le hc hb⟩
          | false =>
            simp
            exact hX _ _ ⟨dn ++ [cs], us, as, by simp [e1], by simp, rfl, by simp; omega, has, rfl⟩
    · rintro d ds acc ρ X ⟨dn, us, e1, e2, rfl, rfl⟩ hX
      cases us with
      | nil => cases e2
      | cons cs us =>
        simp only [List.length_cons] at e2
        rw [rangeD_consA] at e2
        obtain ⟨rfl, rfl⟩ : d = .int (dn.length : Int) ∧ ds = rangeD ((dn.length : Int) + 1) us.length := by simpa using e2
        have hc := hall cs (by rw [e1]; simp)
        have hat : fs[dn.length]? = some cs := by rw [e1]; simp
        have hlt : dn.length < fs.length := by rw [e1]; simp
        have hcl : cs.length ≤ 7 := by have := strC_len (cs := cs); rw [hc.1] at this; omega
        simp
        refine ⟨chsD cs, ⟨cs, hat, rfl⟩, ?_⟩
        have hcnt : ∀ Q : D → Prop, bLen [chsD cs] Q = Q (.int (cs.length : Nat)) := fun Q => by
          have : cs.length ≤ 16777216 := by omega
          simp [chsD, this]
        rw [hcnt]
        simp
        refine ⟨by omega, comp_map (fun d => match d with | .int i => .str (wrdD (lowC cs i.toNat)).py.shown | _ => d) (by rw [rangeD_len]; simp [size16]; omega) (fun d hd Y hY => ?_) ?_⟩
        · obtain ⟨i, hi, rfl⟩ := List.mem_map.mp hd
          simp at hi hY ⊢
          refine ⟨l, e + 1, fs, dn.length, i, cs, rfl, hs, by omega, by omega, by omega, hall, hin, hat, hi, ?_⟩
          simp [wrd_shOk (i := i) hs (by omega) (by omega) hc]
          exact hY
        · have e9 : (rangeD 0 cs.length).map (fun d => match d with | D.int i => D.str (wrdD (lowC cs i.toNat)).py.shown | _ => d) = (List.range cs.length).map fun i => D.str (wrdD (lowC cs i)).py.shown := by
            simp [rangeD, Function.comp_def]
          rw [e9]
          simp
          refine ⟨by omega, ?_⟩
          exact hX _ _ ⟨dn ++ [cs], us, by simp [e1], by simp, by simp [lowRow], rfl⟩
  · rintro d ds acc ρ X ⟨dn, us, e1, e2, rfl, rfl⟩ hX
    cases us with
    | nil => cases e2
    | cons cs us =>
      obtain ⟨rfl, rfl⟩ : d = chsD cs ∧ ds = us.map chsD := by simpa using e2
      have hc := hall cs (by rw [e1]; simp)
      have hlt : dn.length < fs.length := by rw [e1]; simp
      simp
      refine ⟨cs, rfl, okc cs hc, by rw [hc.1]; omega, ?_⟩
      simp
      exact ⟨by omega, hX _ _ ⟨dn ++ [cs], us, by simp [e1], rfl, by simp, rfl⟩⟩
/-! ### law k29 -/
theorem hb_one {c k : Nat} {n : Int} (hc : symC c) (hk : k ≤ 2) (h1 : 1 ≤ n) (h2 : n ≤ 4) : HB [(c, k, n)] := by
  have h4 : 2 ^ k ≤ 2 ^ 2 := Nat.pow_le_pow_right (by decide) hk
  refine ⟨⟨⟨by simpa using hc, by simp; omega, by simpa using h1, by simp; exact smI_lit (Nat.lt_of_le_of_lt (show n.natAbs ≤ 4 by omega) (by decide))⟩, trivial⟩, by simp, ?_⟩
  have e : chrs [(c, k, n)] = List.replicate n.toNat (c, k) := by simp [chrs]
  rw [e, str_rep]
  have := (escC_len (k := k) (c := c)).2
  have : n.toNat * (escC k c).length ≤ 4 * 4 := Nat.mul_le_mul (by omega) (by omega)
  omega
theorem refl_blks (bs : Bx) : PyData.eqv (D.lst (bs.map blkD)).py (D.lst (bs.map blkD)).py = true := by
  have h : ∀ ts : Bx, PyData.eqvAll (D.pyL (ts.map blkD)) (D.pyL (ts.map blkD)) = true := by
    intro ts
    induction ts with
    | nil => rfl
    | cons t ts ih => simp [D.pyL, D.py, blkD, pieD, PyData.eqvAll, PyData.eqv] at ih ⊢; exact ih
  simp only [D.py, PyData.eqv]
  exact h bs
theorem eqOk_blks {bs : Bx} (h : HistOk bs) : (D.lst (bs.map blkD)).eqOk := by
  have hx := show IsHx (D.lst (bs.map blkD)) bs from ⟨rfl, h⟩
  exact eqOk_of hx.sok (by have := hx.dep; omega)
/-- law, slots ['l_script', 'l_bag_here', 'l_turn', 'l_symbol', 'l_held']; lends []; gives dat -/
def b_law : AS := sSeq (sSetO (oDef c_l_bag [] (rDat (aVar 0) (rNil))) 1)
  (sSeq (sFor (iRange1 (aCons (aOp bAddB (aC (.int 3)) (aCall bMin (aCons (aC (.int 6)) (aCons (aCall bLen (aCons (aVar 0) (aNil))) (aNil))))) (aNil))) (agName 2) (sIf (aNot (aTr (aDef c_w_right [] (rIo 1 (rDat (aDef c_r_string [] (rIo 1 (rDat (aC (.int 7)) (rNil)))) (rDat (aDef c_g_draw [] (rIo 1 (rDat (aC (.int 3)) (rNil)))) (rNil))))))) (sRet (aC (.bl false))) (sNx)))
  (sSeq (sFor (iAny (aOp bAddB (aDef c_l_plains [] rNil) (aC (.str "xyz")))) (agName 3) (sSeq (sIf (tCmpV bNe (vDef c_lowered [] (vCons (vLst (vCons (vTup (vCons (vVar 3) (vCons (vC (.int 2)) (vCons (vC (.int 1)) (vNil))))) (vNil))) (vCons (vC (.int 0)) (vNil)))) (vLst (vCons (vTup (vCons (vVar 3) (vCons (vC (.int 1)) (vCons (vC (.int 1)) (vNil))))) (vNil)))) (sRet (aC (.bl false))) (sNx))
  (sIf (tCmpV bNe (vDef c_raised [] (vCons (vLst (vCons (vTup (vCons (vVar 3) (vCons (vC (.int 0)) (vCons (vC (.int 2)) (vNil))))) (vNil))) (vCons (vC (.int 0)) (vNil)))) (vLst (vCons (vTup (vCons (vVar 3) (vCons (vC (.int 1)) (vCons (vC (.int 1)) (vNil))))) (vCons (vTup (vCons (vVar 3) (vCons (vC (.int 0)) (vCons (vC (.int 1)) (vNil))))) (vNil))))) (sRet (aC (.bl false))) (sNx))))
  (sSeq (sSetL2 4 (oLst (aCons (aC (.str "a")) (aCons (aC (.int 2)) (aCons (aC (.int 2)) (aNil))))) (oLst (aCons (aC (.str "\\")) (aCons (aC (.int 0)) (aCons (aC (.int 4)) (aNil))))))
  (sSeq (sIf (tCmpV bNe (vDef c_lowered [] (vCons (vVar 4) (vCons (vC (.int 1)) (vNil)))) (vLst (vCons (vTup (vCons (vC (.str "a")) (vCons (vC (.int 2)) (vCons (vC (.int 1)) (vNil))))) (vCons (vTup (vCons (vC (.str "a")) (vCons (vC (.int 1)) (vCons (vC (.int 1)) (vNil))))) (vCons (vTup (vCons (vC (.str "\\")) (vCons (vC (.int 0)) (vCons (vC (.int 4)) (vNil))))) (vNil)))))) (sRet (aC (.bl false))) (sNx))
  (sSeq (sPutK 4 (aC (.int 1)) (vC (.int 0)) (aC (.int 1)))
  (sSeq (sIf (tCmpV bNe (vDef c_raised [] (vCons (vVar 4) (vCons (vC (.int 2)) (vNil)))) (vLst (vCons (vTup (vCons (vC (.str "a")) (vCons (vC (.int 1)) (vCons (vC (.int 2)) (vNil))))) (vCons (vTup (vCons (vC (.str "\\")) (vCons (vC (.int 1)) (vCons (vC (.int 1)) (vNil))))) (vCons (vTup (vCons (vC (.str "\\")) (vCons (vC (.int 0)) (vCons (vC (.int 2)) (vNil))))) (vNil)))))) (sRet (aC (.bl false))) (sNx))
  (sRet (aAndV (aOp bEq (aDef c_w_high [] (rDat (aFrz (oLst (aCons (aTup (aCons (aC (.str "a")) (aCons (aC (.int 200)) (aCons (aC (.int 1)) (aNil))))) (aNil)))) (rDat (aC (.int 0)) (rNil)))) (aC (.str "none"))) (aOp bEq (aDef c_w_high [] (rDat (aFrz (oLst (aCons (aTup (aCons (aC (.str "\\")) (aCons (aC (.int 200)) (aCons (aC (.int 2)) (aNil))))) (aNil)))) (rDat (aC (.int 0)) (rNil)))) (aC (.str "none")))))))))))
theorem p_law : Sat 1 5 b_law lawC := by
  intro ρ Q Z hl h
  obtain ⟨ns, hn, rfl, hq⟩ := h
  unfold b_law
  refine seq_hide fun u0 hu0 => ?_
  simp [endsA]
  refine ⟨ns, rfl, hn, fun r hr => ?_⟩
  simp
  subst hu0
  refine seq_hide fun u0 hu0 => ?_
  simp
  refine ⟨by split <;> omega, by split <;> omega, ?_⟩
  refine loop_of (fun ds ρ => ∃ (r : List D) (v2 : Sv), ρ = [.dat (.lst (ns.map .int)), .own false r, v2, .un, .un] ∧ noV v2 ∧ Bag (3000 * ds.length) r) ?_ ?_ _ _ ⟨r, .un, rfl, trivial, hr.mono (by rw [rangeD_len]; split <;> omega)⟩
  · rintro ρ ⟨r, v2, rfl, n2, hb⟩
    show u0 _ _
    subst hu0
    refine seq_hide fun u hu => ?_
    simp
    refine ⟨rfl, ?_⟩
    have xs : ∀ c ∈ (plainsS ++ Str.ofString "xyz").cps.toList, symC c := by decide +kernel
    have xl : plainsS.length + (Str.ofString "xyz").length ≤ 16777216 := by decide +kernel
    have xa : ∀ c ∈ (plainsS ++ Str.ofString "xyz").cps.toList, lowC (chrs [(c, 2, 1)]) 0 = some [(c, 1)] := by decide +kernel
    have xb : ∀ c ∈ (plainsS ++ Str.ofString "xyz").cps.toList, riseC (chrs [(c, 0, 2)]) 0 = some [(c, 1), (c, 0)] := by decide +kernel
    have xc : ∀ c ∈ (plainsS ++ Str.ofString "xyz").cps.toList, blocksC [(c, 1)] = [(c, 1, 1)] ∧ blocksC [(c, 1), (c, 0)] = [(c, 1, 1), (c, 0, 1)] := by decide +kernel
    simp
    refine ⟨xl, ?_⟩
    refine loop_of (fun ds ρ => ∃ (ls : List Nat) (v3 : Sv), ρ = [.dat (.lst (ns.map .int)), .own false r, v2, v3, .un] ∧ noV v3 ∧ ds = ls.map (fun c => .str (sgn c)) ∧ ∀ c ∈ ls, c ∈ (plainsS ++ Str.ofString "xyz").cps.toList) ?_ ?_ _ _ ⟨(plainsS ++ Str.ofString "xyz").cps.toList, .un, rfl, trivial, rfl, fun c hc => hc⟩
    · rintro ρ ⟨ls, v3, rfl, n3, -, -⟩
      show u _ _
      subst hu
      refine seq_hide fun u hu => ?_
      simp
      intro a1 a2 a3
      subst hu
      refine seq_hide fun u hu => ?_
      have q1 : Str.ofString "\\" = sgn 92 := by decide +kernel
      have q2 : Str.ofString "a" = sgn 97 := by decide +kernel
      have s92 : symC 92 := by decide +kernel
      have s97 : symC 97 := by decide +kernel
      have hH1 : HistOk [(97, 2, 2), (92, 0, 4)] := ⟨⟨by simp [s92, s97], by simp, by simp, by simp; exact ⟨smI_lit (by decide), smI_lit (by decide)⟩⟩, by simp [Chn, nextB]⟩
      have hI1 : IsHx (.lst [.lst [.str (sgn 97), .int 2, .int 2], .lst [.str (sgn 92), .int 0, .int 4]]) [(97, 2, 2), (92, 0, 4)] := ⟨by simp [blkD, pieD, D.norm, D.normL], hH1⟩
      have hB1 : HB [(97, 2, 2), (92, 0, 4)] := ⟨hH1, by simp, by decide +kernel⟩
      have hR1 : HistOk [(97, 2, 1), (97, 1, 1), (92, 0, 4)] := ⟨⟨by simp [s92, s97], by simp, by simp, by simp; exact ⟨smI_lit (by decide), smI_lit (by decide)⟩⟩, by simp [Chn, nextB]⟩
      have okR1 := eqOk_blks hR1
      have rfR1 := refl_blks [(97, 2, 1), (97, 1, 1), (92, 0, 4)]
      simp [q1, q2]
      refine ⟨_, [(97, 2, 2), (92, 0, 4)], 1, rfl, hI1, hB1, by decide +kernel, fun cs e => ?_, fun e => ?_⟩
      · rw [show lowC (chrs [(97, 2, 2), (92, 0, 4)]) 1 = some [(97, 2), (97, 1), (92, 0), (92, 0), (92, 0), (92, 0)] by decide +kernel] at e
        obtain rfl := Option.some.inj e
        rw [show blocksC [(97, 2), (97, 1), (92, 0), (92, 0), (92, 0), (92, 0)] = [(97, 2, 1), (97, 1, 1), (92, 0, 4)] by decide +kernel]
        simp [blkD, pieD] at okR1 rfR1 ⊢
        simp [okR1, rfR1]
        subst hu
        refine seq_hide fun u hu => ?_
        simp
        have hH2 : HistOk [(97, 1, 2), (92, 0, 4)] := ⟨⟨by simp [s92, s97], by simp, by simp, by simp; exact ⟨smI_lit (by decide), smI_lit (by decide)⟩⟩, by simp [Chn, nextB]⟩
        have hI2 : IsHx (.lst [.lst [.str (sgn 97), .int 1, .int 2], .lst [.str (sgn 92), .int 0, .int 4]]) [(97, 1, 2), (92, 0, 4)] := ⟨by simp [blkD, pieD, D.norm, D.normL], hH2⟩
        have hB2 : HB [(97, 1, 2), (92, 0, 4)] := ⟨hH2, by simp, by decide +kernel⟩
        have hR2 : HistOk [(97, 1, 2), (92, 1, 1), (92, 0, 2)] := ⟨⟨by simp [s92, s97], by simp, by simp, by simp; exact ⟨smI_lit (by decide), smI_lit (by decide), smI_lit (by decide)⟩⟩, by simp [Chn, nextB]⟩
        have okR2 := eqOk_blks hR2
        have rfR2 := refl_blks [(97, 1, 2), (92, 1, 1), (92, 0, 2)]
        refine ⟨0, rfl, a2, ⟨_, rfl⟩, _, rfl, 1, rfl, ?_⟩
        subst hu
        refine seq_hide fun u hu => ?_
        simp [q1, q2]
        refine .inl ⟨_, [(97, 1, 2), (92, 0, 4)], 2, rfl, hI2, hB2, by decide +kernel, fun cs e => ?_, fun e => ?_⟩
        · rw [show riseC (chrs [(97, 1, 2), (92, 0, 4)]) 2 = some [(97, 1), (97, 1), (92, 1), (92, 0), (92, 0)] by decide +kernel] at e
          obtain rfl := Option.some.inj e
          rw [show blocksC [(97, 1), (97, 1), (92, 1), (92, 0), (92, 0)] = [(97, 1, 2), (92, 1, 1), (92, 0, 2)] by decide +kernel]
          simp [blkD, pieD] at okR2 rfR2 ⊢
          simp [okR2, rfR2]
          subst hu
          have hH3 : HistOk [(97, 200, 1)] := ⟨⟨by simp [s97], by simp, by simp, by simp; exact smI_lit (by decide)⟩, trivial⟩
          have hI3 : IsHx (.lst [.tup [.str (sgn 97), .int 200, .int 1]]) [(97, 200, 1)] := ⟨by simp [blkD, pieD], hH3⟩
          have hH4 : HistOk [(92, 200, 2)] := ⟨⟨by simp [s92], by simp, by simp, by simp; exact smI_lit (by decide)⟩, trivial⟩
          have hI4 : IsHx (.lst [.tup [.str (sgn 92), .int 200, .int 2]]) [(92, 200, 2)] := ⟨by simp [blkD, pieD], hH4⟩
          have okn : (D.str (Str.ofString "none")).eqOk := eqOk_of (by decide +kernel) (by decide +kernel)
          have evn : PyData.eqv (D.str (Str.ofString "none")).py (D.str (Str.ofString "none")).py = true := by decide +kernel
          simp [q1, q2]
          refine .inr ⟨_, [(97, 200, 1)], 97, rfl, hI3, by simp, s97, by simp [chrs], ?_⟩
          simp [okn, evn]
          refine .inr ⟨_, [(92, 200, 2)], 92, rfl, hI4, by simp, s92, by simp [chrs], ?_⟩
          simp [okn, evn]
          exact hq _
        · rw [show riseC (chrs [(97, 1, 2), (92, 0, 4)]) 2 = some [(97, 1), (97, 1), (92, 1), (92, 0), (92, 0)] by decide +kernel] at e
          cases e
      · rw [show lowC (chrs [(97, 2, 2), (92, 0, 4)]) 1 = some [(97, 2), (97, 1), (92, 0), (92, 0), (92, 0), (92, 0)] by decide +kernel] at e
        cases e
    · rintro d ds ρ Y ⟨ls, v3, rfl, n3, e1, hs⟩ hY
      obtain ⟨c, ls, rfl, rfl, rfl⟩ : ∃ c ls', ls = c :: ls' ∧ d = .str (sgn c) ∧ ds = ls'.map (fun c => .str (sgn c)) := by
        cases ls with
        | nil => cases e1
        | cons c ls' => simp only [List.map_cons, List.cons.injEq] at e1; exact ⟨c, ls', rfl, e1.1, e1.2⟩
      have mc := hs c (by simp)
      have sc := xs c mc
      simp [-q_sSeq, okV_of n3]
      refine seq_hide fun w hw => ?_
      simp
      have hB1 := hb_one (k := 2) (n := 1) sc (by omega) (by omega) (by omega)
      have hB2 := hb_one (k := 0) (n := 2) sc (by omega) (by omega) (by omega)
      have hI1 : IsHx (.lst [.tup [.str (sgn c), .int 2, .int 1]]) [(c, 2, 1)] := ⟨by simp [blkD, pieD], hB1.toHistOk⟩
      have hI2 : IsHx (.lst [.tup [.str (sgn c), .int 0, .int 2]]) [(c, 0, 2)] := ⟨by simp [blkD, pieD], hB2.toHistOk⟩
      refine ⟨_, [(c, 2, 1)], 0, rfl, hI1, hB1, by simp [chrs], fun cs e => ?_, fun e => ?_⟩
      · rw [xa c mc] at e
        obtain rfl := Option.some.inj e
        rw [(xc c mc).1]
        have hh1 : HistOk [(c, 1, 1)] := (hb_one (k := 1) (n := 1) sc (by omega) (by omega) (by omega)).toHistOk
        have ok1 := eqOk_blks hh1
        have rf1 := refl_blks [(c, 1, 1)]
        have hh2 : HistOk [(c, 1, 1), (c, 0, 1)] := ⟨⟨by simpa using sc, by simp, by simp, by simp; exact smI_lit (by decide)⟩, by simp [Chn, nextB]⟩
        have ok2 := eqOk_blks hh2
        have rf2 := refl_blks [(c, 1, 1), (c, 0, 1)]
        simp [blkD, pieD] at ok1 rf1 ok2 rf2 ⊢
        simp [ok1, rf1]
        subst hw
        simp
        refine .inl ⟨_, [(c, 0, 2)], 0, rfl, hI2, hB2, by simp [chrs], fun cs e => ?_, fun e => ?_⟩
        · rw [xb c mc] at e
          obtain rfl := Option.some.inj e
          rw [(xc c mc).2]
          simp [blkD, pieD, ok2, rf2]
          exact hY _ ⟨ls, _, rfl, trivial, rfl, fun c hc => hs c (by simp [hc])⟩
        · rw [xb c mc] at e; cases e
      · rw [xa c mc] at e; cases e
  · rintro d ds ρ X ⟨r, v2, rfl, n2, hb⟩ hX
    simp only [List.length_cons] at hb
    simp [okV_of n2]
    refine ⟨3000 * ds.length + 2900, r, 7, rfl, hb.mono (by omega), by omega, fun r1 l hr1 hs hlen => ?_⟩
    simp
    refine ⟨3000 * ds.length + 2800, r1, 3, rfl, hr1.mono (by omega), cdiv_lit (by omega), fun r2 e hr2 e0 e1 => ?_⟩
    obtain ⟨e, rfl⟩ : ∃ e' : Nat, e = (e' : Int) := ⟨e.toNat, by omega⟩
    simp
    refine ⟨3000 * ds.length + 800, r2, l, e, rfl, hs, by omega, by omega, hr2.mono (by omega), fun r3 hr3 => ?_⟩
    simp
    exact hX _ ⟨r3, _, rfl, trivial, hr3.mono (by omega)⟩
def topS (i : Nat) : Stmt := PySem.Challenge.pw_slashlevels_k29_moves.main.body.getD i (.Pass ⟨0, 0, 0, 0⟩)
/-- the built-ins that no name of the module hides -/
structure Bi (mg : Str → Option Value) : Prop where
  all_ : mg "all" = none
  bool_ : mg "bool" = none
  enumerate_ : mg "enumerate" = none
  int_ : mg "int" = none
  isinstance_ : mg "isinstance" = none
  len_ : mg "len" = none
  list_ : mg "list" = none
  min_ : mg "min" = none
  ord_ : mg "ord" = none
  range_ : mg "range" = none
  repr_ : mg "repr" = none
  set_ : mg "set" = none
  sorted_ : mg "sorted" = none
  str_ : mg "str" = none
  sum_ : mg "sum" = none
  tuple_ : mg "tuple" = none
  zip_ : mg "zip" = none
section
variable {P : Program} {w : World} {K : PySem.W.Frag} {mg : Str → Option Value} {base : Heap}
abbrev s_is_integer : Stmt := topS 9
theorem sc_is_integer : FnScope ["value", "low", "high"] ["value", "low", "high"] (defScope s_is_integer) := ⟨rfl, rfl, rfl, by decide +kernel, rfl, by decide +kernel, by decide +kernel⟩
theorem w_is_integer {f : Addr} {fd : FuncData} (B : Bi mg) (hsys : ∃ o es ep, base.get? sysModules = some o ∧ o.data = .dict es ep) (F : FunD K "is_integer" "is_integer" (defArgs s_is_integer) (defBody s_is_integer) (defScope s_is_integer) [.non] [] f fd) : FnG P w K mg base 1 f fd ["value", "low", "high"] (spV K 3 c_is_integer) :=
  ok_sat (t := b_is_integer) F sc_is_integer hsys (fun cdv A ou s H E rn po tk => ss_cons (s_if (tw (tw_or (t_not (t_truV (v_isi (T := "int") (by decide) (by rfl) B.isinstance_ (by rfl) B.int_ (by decide +kernel) (vv 0)))) (tw_or1 (t_truV (v_isi (T := "bool") (by decide) (by rfl) B.isinstance_ (by rfl) B.bool_ (by decide +kernel) (vv 0)))))) (ss_one (s_ret (e_bl))) (ss_nil))
      (ss_one (s_ret (e_and (e_cmp op_leA b2_ord (ev 1) (ev 0) (nomark _)) (e_one (e_or (e_cmp op_isN b2_isN (ev 2) (e_non) (nomark _)) (e_one (e_cmp op_leA b2_ord (ev 0) (ev 2) (nomark _))))))))) p_is_integer
abbrev s_is_symbol : Stmt := topS 10
theorem sc_is_symbol : FnScope ["value"] ["value"] (defScope s_is_symbol) := ⟨rfl, rfl, rfl, by decide +kernel, rfl, by decide +kernel, by decide +kernel⟩
theorem w_is_symbol {f : Addr} {fd : FuncData} (B : Bi mg) (hsys : ∃ o es ep, base.get? sysModules = some o ∧ o.data = .dict es ep) (F : FunD K "is_symbol" "is_symbol" (defArgs s_is_symbol) (defBody s_is_symbol) (defScope s_is_symbol) [] [] f fd) (G_PERCENT_CODE : GlC K mg "PERCENT_CODE" (.int 37)) : FnG P w K mg base 1 f fd ["value"] (spV K 1 c_is_symbol) :=
  ok_sat (t := b_is_symbol) F sc_is_symbol hsys (fun cdv A ou s H E rn po tk => ss_one (s_ret (e_and (e_flat (v_isi (T := "str") (by decide) (by rfl) B.isinstance_ (by rfl) B.str_ (by decide +kernel) (vv 0))) (e_and (e_cmp (op_eqS rn.hr.units) b2_eq (e_callB call_len bn_len (by rfl) B.len_ (by decide +kernel) (es_cons (ev 0) (es_nil))) (e_int) (nomark _)) (e_and (e_flat (v_chain op_leA b2_ord op_leA b2_ord (v_str) (vv 0) (v_str))) (e_one (e_cmp (op_neS rn.hr.units) b2_ne (e_callB call_ord bn_ord (by rfl) B.ord_ (by decide +kernel) (es_cons (ev 0) (es_nil))) (e_glob G_PERCENT_CODE (by rfl)) (nomark _)))))))) p_is_symbol
abbrev s_is_run : Stmt := topS 11
theorem sc_is_run : FnScope ["value"] ["value"] (defScope s_is_run) := ⟨rfl, rfl, rfl, by decide +kernel, rfl, by decide +kernel, by decide +kernel⟩
theorem w_is_run {f : Addr} {fd : FuncData} (B : Bi mg) (hsys : ∃ o es ep, base.get? sysModules = some o ∧ o.data = .dict es ep) (F : FunD K "is_run" "is_run" (defArgs s_is_run) (defBody s_is_run) (defScope s_is_run) [] [] f fd) (D_is_symbol : DefC P w K mg base 1 "is_symbol" ["value"] [] c_is_symbol) (D_is_integer1 : DefC P w K mg base 1 "is_integer" ["value", "low", "high"] [.non] c_is_integer) : FnG P w K mg base 2 f fd ["value"] (spV K 1 c_is_run) :=
  ok_sat (t := b_is_run) F sc_is_run hsys (fun cdv A ou s H E rn po tk => ss_cons (s_if (tw (tw_or (t_not (t_truV (v_isi2 (T := "list") (U := "tuple") (by decide) (by decide) (by rfl) B.isinstance_ (by rfl) B.list_ (by decide +kernel) (by rfl) B.tuple_ (by decide +kernel) (vv 0)))) (tw_or1 (t_cmpV (op_neS rn.hr.units) b2_ne (v_callB call_len bn_len (by rfl) B.len_ (by decide +kernel) (vs_cons (vv 0) (vs_nil))) (v_int) (nomark _))))) (ss_one (s_ret (e_bl))) (ss_nil))
      (ss_one (s_ret (e_and (e_def D_is_symbol (rn.mono (by decide)) tk (by rfl) (r_dat (e_ix ix_seq b2_ix (ev 0) (e_int) (fun _ _ => rfl)) (r_nil))) (e_one (e_def D_is_integer1 (rn.mono (by decide)) tk (by rfl) (r_dat (e_ix ix_seq b2_ix (ev 0) (e_int) (fun _ _ => rfl)) (r_dat (e_int) (r_nil))))))))) p_is_run
abbrev s_is_text : Stmt := topS 12
theorem sc_is_text : FnScope ["value", "run", "place"] ["value"] (defScope s_is_text) := ⟨rfl, rfl, rfl, by decide +kernel, rfl, by decide +kernel, by decide +kernel⟩
theorem w_is_text {f : Addr} {fd : FuncData} (B : Bi mg) (hsys : ∃ o es ep, base.get? sysModules = some o ∧ o.data = .dict es ep) (F : FunD K "is_text" "is_text" (defArgs s_is_text) (defBody s_is_text) (defScope s_is_text) [] [] f fd) (D_is_run : DefC P w K mg base 2 "is_run" ["value"] [] c_is_run) : FnG P w K mg base 3 f fd ["value"] (spV K 1 c_is_text) :=
  ok_sat (t := b_is_text) F sc_is_text hsys (fun cdv A ou s H E rn po tk => ss_cons (s_if (tw (tw_or (t_not (t_truV (v_isi2 (T := "list") (U := "tuple") (by decide) (by decide) (by rfl) B.isinstance_ (by rfl) B.list_ (by decide +kernel) (by rfl) B.tuple_ (by decide +kernel) (vv 0)))) (tw_or1 (t_not (t_tru (e_callB (cr_all rfl) bn_all (by rfl) B.all_ (by decide +kernel) (es_cons (e_frz (o_lc (own := [("run", 1)]) rfl sc_is_text.nd (i_any (ev 0)) (blkOk_by (show blkC ["value", "run", "place"] (defScope s_is_text) _ _ = true by decide +kernel)) (fun _ _ _ _ _ => si_name (i := 1) sc_is_text.nd) (fun _ _ _ _ _ => tx_nil) (fun _ _ _ _ _ => e_def D_is_run (rn.blk.mono (by decide)) tk0 (by rfl) (r_dat (ev 1) (r_nil))))) (es_nil)))))))) (ss_one (s_ret (e_bl))) (ss_nil))
      (ss_one (s_ret (e_callB (cr_all rfl) bn_all (by rfl) B.all_ (by decide +kernel) (es_cons (e_frz (o_lc (own := [("place", 2)]) rfl sc_is_text.nd (i_range1 (by rfl) B.range_ (es_cons (e_op op_sub b2_sub (e_callB call_len bn_len (by rfl) B.len_ (by decide +kernel) (es_cons (ev 0) (es_nil))) (e_int)) (es_nil))) (blkOk_by (show blkC ["value", "run", "place"] (defScope s_is_text) _ _ = true by decide +kernel)) (fun _ _ _ _ _ => si_name (i := 2) sc_is_text.nd) (fun _ _ _ _ _ => tx_nil) (fun _ _ _ _ _ => e_cmp (op_neS rn.blk.hr.units) b2_ne (e_ix ix_seq b2_ix (e_ix ix_seq b2_ix (ev 0) (ev 2) (fun _ _ => rfl)) (e_int) (fun _ _ => rfl)) (e_ix ix_seq b2_ix (e_ix ix_seq b2_ix (ev 0) (e_op op_addB b2_addB (ev 2) (e_int)) (fun _ _ => rfl)) (e_int) (fun _ _ => rfl)) (nomark _)))) (es_nil)))))) p_is_text
abbrev s_power_of_two : Stmt := topS 15
theorem sc_power_of_two : FnScope ["exponent", "found", "turn"] ["exponent"] (defScope s_power_of_two) := ⟨rfl, rfl, rfl, by decide +kernel, rfl, by decide +kernel, by decide +kernel⟩
theorem w_power_of_two {f : Addr} {fd : FuncData} (B : Bi mg) (hsys : ∃ o es ep, base.get? sysModules = some o ∧ o.data = .dict es ep) (F : FunD K "power_of_two" "power_of_two" (defArgs s_power_of_two) (defBody s_power_of_two) (defScope s_power_of_two) [] [] f fd) : FnG P w K mg base 1 f fd ["exponent"] (spV K 1 c_power_of_two) :=
  ok_sat (t := b_power_of_two) F sc_power_of_two hsys (fun cdv A ou s H E rn po tk => ss_cons (s_set (i := 1) sc_power_of_two.nd (e_int))
      (ss_cons (s_for po rfl (i_range1 (by rfl) B.range_ (es_cons (ev 0) (es_nil))) (g_name (i := 2) sc_power_of_two.nd) (ss_one (s_aug (i := 1) sc_power_of_two.nd iop_mul b2_mulS (e_int))))
      (ss_one (s_ret (ev 1))))) p_power_of_two
abbrev s_add_block : Stmt := topS 18
theorem sc_add_block : FnScope ["blocks", "symbol", "level", "count"] ["blocks", "symbol", "level", "count"] (defScope s_add_block) := ⟨rfl, rfl, rfl, by decide +kernel, rfl, by decide +kernel, by decide +kernel⟩
theorem w_add_block {f : Addr} {fd : FuncData} (B : Bi mg) (hsys : ∃ o es ep, base.get? sysModules = some o ∧ o.data = .dict es ep) (F : FunD K "add_block" "add_block" (defArgs s_add_block) (defBody s_add_block) (defScope s_add_block) [] [] f fd) : FnG P w K mg base 1 f fd ["blocks", "symbol", "level", "count"] (spV K 4 c_add_block) :=
  ok_sat (t := b_add_block) F sc_add_block hsys (fun cdv A ou s H E rn po tk => ss_one (s_if (tw (tw_and (t_cmpV op_gtA b2_ord (vv 3) (v_int) (nomark _)) (tw_and (t_cmpV (op_neS rn.hr.units) b2_ne (vv 0) (v_lst (vs_nil)) (nomark _)) (tw_and1 (t_cmp (op_eqS rn.hr.units) b2_eq (e_slice (e_ownIx 0 (e_un un_neg b1_neg (e_int)) (fun _ _ => rfl)) (px_no) (px_some (e_int))) (e_tup (es_cons (ev 1) (es_cons (ev 2) (es_nil)))) (nomark _)))))) (ss_one (s_put (i := 0) (e_tup (es_cons (ev 1) (es_cons (ev 2) (es_cons (e_op op_addB b2_addB (e_ix ix_seq b2_ix (e_ownIx 0 (e_un un_neg b1_neg (e_int)) (fun _ _ => rfl)) (e_int) (fun _ _ => rfl)) (ev 3)) (es_nil))))) (e_un un_neg b1_neg (e_int)))) (ss_one (s_if (t_cmpV op_gtA b2_ord (vv 3) (v_int) (nomark _)) (ss_one (s_app (i := 0) (e_tup (es_cons (ev 1) (es_cons (ev 2) (es_cons (ev 3) (es_nil))))) (hp := fun _ h => pe_bm PySem.F.plainAttrs_list PySem.F.slot_list_append PySem.F.type_list_append mt_append (pv 0) (pa_cons h pa_nil)))) (ss_nil))))) p_add_block
abbrev s_is_block : Stmt := topS 19
theorem sc_is_block : FnScope ["value"] ["value"] (defScope s_is_block) := ⟨rfl, rfl, rfl, by decide +kernel, rfl, by decide +kernel, by decide +kernel⟩
theorem w_is_block {f : Addr} {fd : FuncData} (B : Bi mg) (hsys : ∃ o es ep, base.get? sysModules = some o ∧ o.data = .dict es ep) (F : FunD K "is_block" "is_block" (defArgs s_is_block) (defBody s_is_block) (defScope s_is_block) [] [] f fd) (G_MAX_ESCAPES : GlC K mg "MAX_ESCAPES" (.int 200)) (D_is_integer : DefC P w K mg base 1 "is_integer" ["value", "low", "high"] [] c_is_integer) (D_is_integer1 : DefC P w K mg base 1 "is_integer" ["value", "low", "high"] [.non] c_is_integer) (D_is_text : DefC P w K mg base 3 "is_text" ["value"] [] c_is_text) : FnG P w K mg base 4 f fd ["value"] (spV K 1 c_is_block) :=
  ok_sat (t := b_is_block) F sc_is_block hsys (fun cdv A ou s H E rn po tk => ss_cons (s_if (tw (tw_or (t_not (t_truV (v_isi2 (T := "list") (U := "tuple") (by decide) (by decide) (by rfl) B.isinstance_ (by rfl) B.list_ (by decide +kernel) (by rfl) B.tuple_ (by decide +kernel) (vv 0)))) (tw_or (t_cmpV (op_neS rn.hr.units) b2_ne (v_callB call_len bn_len (by rfl) B.len_ (by decide +kernel) (vs_cons (vv 0) (vs_nil))) (v_int) (nomark _)) (tw_or1 (t_not (t_truV (v_def D_is_text (rn.mono (by decide)) tk0 (by rfl) (vr_cons (v_lst (vs_cons (v_tup (vs_cons (v_ix ix_seq b2_ix (vv 0) (v_int) (fun _ _ => rfl)) (vs_cons (v_int) (vs_nil)))) (vs_nil))) (vr_nil))))))))) (ss_one (s_ret (e_bl))) (ss_nil))
      (ss_one (s_ret (e_and (e_def D_is_integer (rn.mono (by decide)) tk (by rfl) (r_dat (e_ix ix_seq b2_ix (ev 0) (e_int) (fun _ _ => rfl)) (r_dat (e_int) (r_dat (e_glob G_MAX_ESCAPES (by rfl)) (r_nil))))) (e_one (e_def D_is_integer1 (rn.mono (by decide)) tk (by rfl) (r_dat (e_ix ix_seq b2_ix (ev 0) (e_int) (fun _ _ => rfl)) (r_dat (e_int) (r_nil))))))))) p_is_block
abbrev s_are_blocks : Stmt := topS 20
theorem sc_are_blocks : FnScope ["value", "block", "one", "other"] ["value"] (defScope s_are_blocks) := ⟨rfl, rfl, rfl, by decide +kernel, rfl, by decide +kernel, by decide +kernel⟩
theorem w_are_blocks {f : Addr} {fd : FuncData} (B : Bi mg) (hsys : ∃ o es ep, base.get? sysModules = some o ∧ o.data = .dict es ep) (F : FunD K "are_blocks" "are_blocks" (defArgs s_are_blocks) (defBody s_are_blocks) (defScope s_are_blocks) [] [] f fd) (D_is_block : DefC P w K mg base 4 "is_block" ["value"] [] c_is_block) : FnG P w K mg base 5 f fd ["value"] (spV K 1 c_are_blocks) :=
  ok_sat (t := b_are_blocks) F sc_are_blocks hsys (fun cdv A ou s H E rn po tk => ss_cons (s_if (tw (tw_or (t_not (t_truV (v_isi2 (T := "list") (U := "tuple") (by decide) (by decide) (by rfl) B.isinstance_ (by rfl) B.list_ (by decide +kernel) (by rfl) B.tuple_ (by decide +kernel) (vv 0)))) (tw_or1 (t_not (t_tru (e_callB (cr_all rfl) bn_all (by rfl) B.all_ (by decide +kernel) (es_cons (e_frz (o_lc (own := [("block", 1)]) rfl sc_are_blocks.nd (i_any (ev 0)) (blkOk_by (show blkC ["value", "block", "one", "other"] (defScope s_are_blocks) _ _ = true by decide +kernel)) (fun _ _ _ _ _ => si_name (i := 1) sc_are_blocks.nd) (fun _ _ _ _ _ => tx_nil) (fun _ _ _ _ _ => e_def D_is_block (rn.blk.mono (by decide)) tk0 (by rfl) (r_dat (ev 1) (r_nil))))) (es_nil)))))))) (ss_one (s_ret (e_bl))) (ss_nil))
      (ss_cons (s_for po rfl (i_zipB (by rfl) B.zip_ (es_cons (ev 0) (es_cons (e_sliceA (ev 0) (px_some (e_int)) (px_no)) (es_nil))) (fun _ h => RZ.pi_zipA (by rfl) B.zip_ h)) (g_tup rfl (gs_cons (g_name (i := 2) sc_are_blocks.nd) (gs_cons (g_name (i := 3) sc_are_blocks.nd) (gs_nil) (hm := gm_name)) (hm := gm_name))) (ss_one (s_if (tw (tw_or (t_cmpV op_ltA b2_ord (v_ix ix_seq b2_ix (vv 2) (v_int) (fun _ _ => rfl)) (v_ix ix_seq b2_ix (vv 3) (v_int) (fun _ _ => rfl)) (nomark _)) (tw_or1 (t_cmpV (op_eqS rn.hr.units) b2_eq (v_tup (vs_cons (v_ix ix_seq b2_ix (vv 2) (v_int) (fun _ _ => rfl)) (vs_cons (v_ix ix_seq b2_ix (vv 2) (v_int) (fun _ _ => rfl)) (vs_nil)))) (v_tup (vs_cons (v_ix ix_seq b2_ix (vv 3) (v_int) (fun _ _ => rfl)) (vs_cons (v_ix ix_seq b2_ix (vv 3) (v_int) (fun _ _ => rfl)) (vs_nil)))) (nomark _))))) (ss_one (s_ret (e_bl))) (ss_nil))))
      (ss_one (s_ret (e_bl))))) p_are_blocks
abbrev s_checked_blocks : Stmt := topS 21
theorem sc_checked_blocks : FnScope ["history", "block"] ["history"] (defScope s_checked_blocks) := ⟨rfl, rfl, rfl, by decide +kernel, rfl, by decide +kernel, by decide +kernel⟩
theorem w_checked_blocks {f : Addr} {fd : FuncData} (B : Bi mg) (hsys : ∃ o es ep, base.get? sysModules = some o ∧ o.data = .dict es ep) (F : FunD K "checked_blocks" "checked_blocks" (defArgs s_checked_blocks) (defBody s_checked_blocks) (defScope s_checked_blocks) [] [] f fd) (D_are_blocks : DefC P w K mg base 5 "are_blocks" ["value"] [] c_are_blocks) (RA_InvalidHistory : RaiC K mg "InvalidHistory") : FnG P w K mg base 6 f fd ["history"] (spV K 1 c_checked_blocks) :=
  ok_sat (t := b_checked_blocks) F sc_checked_blocks hsys (fun cdv A ou s H E rn po tk => ss_cons (s_if (t_not (t_truV (v_def D_are_blocks (rn.mono (by decide)) tk0 (by rfl) (vr_cons (vv 0) (vr_nil))))) (ss_one (s_raise0 rfl tk RA_InvalidHistory (by rfl))) (ss_nil))
      (ss_one (s_retO (o_lc (own := [("block", 1)]) rfl sc_checked_blocks.nd (i_any (ev 0)) (blkOk_by (show blkC ["history", "block"] (defScope s_checked_blocks) _ _ = true by decide +kernel)) (fun _ _ _ _ _ => si_name (i := 1) sc_checked_blocks.nd) (fun _ _ _ _ _ => tx_nil) (fun _ _ _ _ _ => e_callT call_tuple_of bn_tuple (by rfl) B.tuple_ (by decide +kernel) (es_cons (ev 1) (es_nil))))))) p_checked_blocks
abbrev s_width_of : Stmt := topS 22
theorem sc_width_of : FnScope ["symbol", "level"] ["symbol", "level"] (defScope s_width_of) := ⟨rfl, rfl, rfl, by decide +kernel, rfl, by decide +kernel, by decide +kernel⟩
theorem w_width_of {f : Addr} {fd : FuncData} (B : Bi mg) (hsys : ∃ o es ep, base.get? sysModules = some o ∧ o.data = .dict es ep) (F : FunD K "width_of" "width_of" (defArgs s_width_of) (defBody s_width_of) (defScope s_width_of) [] [] f fd) (G_SPECIAL : GlC K mg "SPECIAL" (.tup [.str "\\", .str "\""])) (D_power_of_two : DefC P w K mg base 1 "power_of_two" ["exponent"] [] c_power_of_two) : FnG P w K mg base 2 f fd ["symbol", "level"] (spV K 2 c_width_of) :=
  ok_sat (t := b_width_of) F sc_width_of hsys (fun cdv A ou s H E rn po tk => ss_one (s_ret (e_if (t_cmpV op_inA b2_in (vv 0) (v_glob G_SPECIAL (by rfl)) (by rfl)) (e_def D_power_of_two (rn.mono (by decide)) tk (by rfl) (r_dat (ev 1) (r_nil))) (e_int)))) p_width_of
abbrev s_add_piece : Stmt := topS 23
theorem sc_add_piece : FnScope ["pieces", "symbol", "size", "many"] ["pieces", "symbol", "size", "many"] (defScope s_add_piece) := ⟨rfl, rfl, rfl, by decide +kernel, rfl, by decide +kernel, by decide +kernel⟩
theorem w_add_piece {f : Addr} {fd : FuncData} (B : Bi mg) (hsys : ∃ o es ep, base.get? sysModules = some o ∧ o.data = .dict es ep) (F : FunD K "add_piece" "add_piece" (defArgs s_add_piece) (defBody s_add_piece) (defScope s_add_piece) [] [] f fd) (G_BACKSLASH : GlC K mg "BACKSLASH" (.str "\\")) : FnG P w K mg base 1 f fd ["pieces", "symbol", "size", "many"] (spV K 4 c_add_piece) :=
  ok_sat (t := b_add_piece) F sc_add_piece hsys (fun cdv A ou s H E rn po tk => ss_one (s_if (tw (tw_and (t_cmpV op_gtA b2_ord (vv 3) (v_int) (nomark _)) (tw_and (t_cmpV (op_neS rn.hr.units) b2_ne (vv 1) (v_glob G_BACKSLASH (by rfl)) (nomark _)) (tw_and (t_cmpV (op_neS rn.hr.units) b2_ne (vv 0) (v_lst (vs_nil)) (nomark _)) (tw_and1 (t_cmp (op_eqS rn.hr.units) b2_eq (e_slice (e_ownIx 0 (e_un un_neg b1_neg (e_int)) (fun _ _ => rfl)) (px_no) (px_some (e_int))) (e_tup (es_cons (ev 1) (es_cons (ev 2) (es_nil)))) (nomark _))))))) (ss_one (s_put (i := 0) (e_tup (es_cons (ev 1) (es_cons (ev 2) (es_cons (e_op op_addB b2_addB (e_ix ix_seq b2_ix (e_ownIx 0 (e_un un_neg b1_neg (e_int)) (fun _ _ => rfl)) (e_int) (fun _ _ => rfl)) (ev 3)) (es_nil))))) (e_un un_neg b1_neg (e_int)))) (ss_one (s_if (t_cmpV op_gtA b2_ord (vv 3) (v_int) (nomark _)) (ss_one (s_app (i := 0) (e_tup (es_cons (ev 1) (es_cons (ev 2) (es_cons (ev 3) (es_nil))))) (hp := fun _ h => pe_bm PySem.F.plainAttrs_list PySem.F.slot_list_append PySem.F.type_list_append mt_append (pv 0) (pa_cons h pa_nil)))) (ss_nil))))) p_add_piece
abbrev s_pieces_of : Stmt := topS 24
theorem sc_pieces_of : FnScope ["blocks", "pieces", "waiting", "symbol", "level", "count"] ["blocks"] (defScope s_pieces_of) := ⟨rfl, rfl, rfl, by decide +kernel, rfl, by decide +kernel, by decide +kernel⟩
theorem w_pieces_of {f : Addr} {fd : FuncData} (B : Bi mg) (hsys : ∃ o es ep, base.get? sysModules = some o ∧ o.data = .dict es ep) (F : FunD K "pieces_of" "pieces_of" (defArgs s_pieces_of) (defBody s_pieces_of) (defScope s_pieces_of) [] [] f fd) (G_BACKSLASH : GlC K mg "BACKSLASH" (.str "\\")) (G_QUOTE : GlC K mg "QUOTE" (.str "\"")) (D_add_piece : DefC P w K mg base 1 "add_piece" ["pieces", "symbol", "size", "many"] [] c_add_piece) (D_width_of : DefC P w K mg base 2 "width_of" ["symbol", "level"] [] c_width_of) : FnG P w K mg base 3 f fd ["blocks"] (spV K 1 c_pieces_of) :=
  ok_sat (t := b_pieces_of) F sc_pieces_of hsys (fun cdv A ou s H E rn po tk => ss_cons (s_setO (i := 1) sc_pieces_of.nd (o_lst (es_nil)))
      (ss_cons (s_set (i := 2) sc_pieces_of.nd (e_int))
      (ss_cons (s_for po rfl (i_any (ev 0)) (g_tup rfl (gs_cons (g_name (i := 3) sc_pieces_of.nd) (gs_cons (g_name (i := 4) sc_pieces_of.nd) (gs_cons (g_name (i := 5) sc_pieces_of.nd) (gs_nil) (hm := gm_name)) (hm := gm_name)) (hm := gm_name))) (ss_one (s_if (t_cmpV (op_eqS rn.hr.units) b2_eq (vv 3) (v_glob G_BACKSLASH (by rfl)) (nomark _)) (ss_one (s_aug (i := 2) sc_pieces_of.nd iop_add b2_addI (e_op op_mulB b2_mulB (ev 5) (e_def D_width_of (rn.mono (by decide)) tk (by rfl) (r_dat (ev 3) (r_dat (ev 4) (r_nil))))))) (ss_one (s_if (t_cmpV (op_eqS rn.hr.units) b2_eq (vv 3) (v_glob G_QUOTE (by rfl)) (nomark _)) (ss_cons (s_expr (e_def D_add_piece (rn.mono (by decide)) tk (by rfl) (r_io 1 (r_dat (e_glob G_QUOTE (by rfl)) (r_dat (e_op op_addB b2_addB (ev 2) (e_def D_width_of (rn.mono (by decide)) tk (by rfl) (r_dat (ev 3) (r_dat (ev 4) (r_nil))))) (r_dat (e_int) (r_nil)))))))
      (ss_cons (s_expr (e_def D_add_piece (rn.mono (by decide)) tk (by rfl) (r_io 1 (r_dat (e_glob G_QUOTE (by rfl)) (r_dat (e_def D_width_of (rn.mono (by decide)) tk (by rfl) (r_dat (ev 3) (r_dat (ev 4) (r_nil)))) (r_dat (e_op op_sub b2_sub (ev 5) (e_int)) (r_nil)))))))
      (ss_one (s_set (i := 2) sc_pieces_of.nd (e_int))))) (ss_cons (s_expr (e_def D_add_piece (rn.mono (by decide)) tk (by rfl) (r_io 1 (r_dat (e_glob G_BACKSLASH (by rfl)) (r_dat (ev 2) (r_dat (e_callT call_int1 bn_int (by rfl) B.int_ (by decide +kernel) (es_cons (e_cmp op_gtA b2_ord (ev 2) (e_int) (nomark _)) (es_nil))) (r_nil)))))))
      (ss_cons (s_expr (e_def D_add_piece (rn.mono (by decide)) tk (by rfl) (r_io 1 (r_dat (ev 3) (r_dat (e_int) (r_dat (ev 5) (r_nil)))))))
      (ss_one (s_set (i := 2) sc_pieces_of.nd (e_int))))))))))
      (ss_cons (s_expr (e_def D_add_piece (rn.mono (by decide)) tk (by rfl) (r_io 1 (r_dat (e_glob G_BACKSLASH (by rfl)) (r_dat (ev 2) (r_dat (e_callT call_int1 bn_int (by rfl) B.int_ (by decide +kernel) (es_cons (e_cmp op_gtA b2_ord (ev 2) (e_int) (nomark _)) (es_nil))) (r_nil)))))))
      (ss_one (s_retV (i := 1))))))) p_pieces_of
abbrev s_add_parts : Stmt := topS 25
theorem sc_add_parts : FnScope ["blocks", "parts", "quoted", "place", "level", "many", "is_last"] ["blocks", "parts", "quoted"] (defScope s_add_parts) := ⟨rfl, rfl, rfl, by decide +kernel, rfl, by decide +kernel, by decide +kernel⟩
theorem w_add_parts {f : Addr} {fd : FuncData} (B : Bi mg) (hsys : ∃ o es ep, base.get? sysModules = some o ∧ o.data = .dict es ep) (F : FunD K "add_parts" "add_parts" (defArgs s_add_parts) (defBody s_add_parts) (defScope s_add_parts) [] [] f fd) (G_BACKSLASH : GlC K mg "BACKSLASH" (.str "\\")) (G_QUOTE : GlC K mg "QUOTE" (.str "\"")) (D_add_block : DefC P w K mg base 1 "add_block" ["blocks", "symbol", "level", "count"] [] c_add_block) : FnG P w K mg base 2 f fd ["blocks", "parts", "quoted"] (spV K 3 c_add_parts) :=
  ok_sat (t := b_add_parts) F sc_add_parts hsys (fun cdv A ou s H E rn po tk => ss_one (s_for po rfl (i_enumA (by rfl) B.enumerate_ (es_cons (ev 1) (es_nil))) (g_tup rfl (gs_cons (g_name (i := 3) sc_add_parts.nd) (gs_cons (g_tup rfl (gs_cons (g_name (i := 4) sc_add_parts.nd) (gs_cons (g_name (i := 5) sc_add_parts.nd) (gs_nil) (hm := gm_name)) (hm := gm_name))) (gs_nil) (hm := gm_tup (gms_cons gm_name (gms_cons gm_name (gms_nil))))) (hm := gm_name))) (ss_cons (s_set (i := 6) sc_add_parts.nd (e_and (ev 2) (e_one (e_cmp (op_eqS rn.hr.units) b2_eq (ev 3) (e_op op_sub b2_sub (e_callB call_len bn_len (by rfl) B.len_ (by decide +kernel) (es_cons (ev 1) (es_nil))) (e_int)) (nomark _)))))
      (ss_cons (s_expr (e_def D_add_block (rn.mono (by decide)) tk (by rfl) (r_io 0 (r_dat (e_glob G_BACKSLASH (by rfl)) (r_dat (ev 4) (r_dat (e_op op_sub b2_sub (ev 5) (e_callT call_int1 bn_int (by rfl) B.int_ (by decide +kernel) (es_cons (ev 6) (es_nil)))) (r_nil)))))))
      (ss_one (s_expr (e_def D_add_block (rn.mono (by decide)) tk (by rfl) (r_io 0 (r_dat (e_glob G_QUOTE (by rfl)) (r_dat (ev 4) (r_dat (e_callT call_int1 bn_int (by rfl) B.int_ (by decide +kernel) (es_cons (ev 6) (es_nil))) (r_nil)))))))))))) p_add_parts
abbrev s_numbered_by : Stmt := topS 27
theorem sc_numbered_by : FnScope ["blocks", "number", "first", "start", "symbol", "level", "count", "size"] ["blocks", "number"] (defScope s_numbered_by) := ⟨rfl, rfl, rfl, by decide +kernel, rfl, by decide +kernel, by decide +kernel⟩
theorem w_numbered_by {f : Addr} {fd : FuncData} (B : Bi mg) (hsys : ∃ o es ep, base.get? sysModules = some o ∧ o.data = .dict es ep) (F : FunD K "numbered_by" "numbered_by" (defArgs s_numbered_by) (defBody s_numbered_by) (defScope s_numbered_by) [] [] f fd) (D_width_of : DefC P w K mg base 2 "width_of" ["symbol", "level"] [] c_width_of) : FnG P w K mg base 3 f fd ["blocks", "number"] (spV K 2 c_numbered_by) :=
  ok_sat (t := b_numbered_by) F sc_numbered_by hsys (fun cdv A ou s H E rn po tk => ss_cons (s_asg (e_tup (es_cons (e_int) (es_cons (e_int) (es_nil)))) (g_tup rfl (gs_cons (g_name (i := 2) sc_numbered_by.nd) (gs_cons (g_name (i := 3) sc_numbered_by.nd) (gs_nil) (hm := gm_name)) (hm := gm_name))))
      (ss_cons (s_for po rfl (i_any (ev 0)) (g_tup rfl (gs_cons (g_name (i := 4) sc_numbered_by.nd) (gs_cons (g_name (i := 5) sc_numbered_by.nd) (gs_cons (g_name (i := 6) sc_numbered_by.nd) (gs_nil) (hm := gm_name)) (hm := gm_name)) (hm := gm_name))) (ss_cons (s_set (i := 7) sc_numbered_by.nd (e_def D_width_of (rn.mono (by decide)) tk (by rfl) (r_dat (ev 4) (r_dat (ev 5) (r_nil)))))
      (ss_cons (s_if (t_cmpV op_ltA b2_ord (vv 1) (v_op op_addB b2_addB (vv 2) (vv 6)) (nomark _)) (ss_one (s_ret (e_tup (es_cons (ev 1) (es_cons (ev 4) (es_cons (ev 5) (es_cons (e_op op_addB b2_addB (ev 3) (e_op op_mulB b2_mulB (e_op op_sub b2_sub (ev 1) (ev 2)) (ev 7))) (es_cons (ev 7) (es_nil))))))))) (ss_nil))
      (ss_cons (s_aug (i := 2) sc_numbered_by.nd iop_add b2_addI (ev 6))
      (ss_one (s_aug (i := 3) sc_numbered_by.nd iop_add b2_addI (e_op op_mulB b2_mulB (ev 6) (ev 7))))))))
      (ss_one (s_ret (e_non))))) p_numbered_by
abbrev s_stretches_of : Stmt := topS 29
theorem sc_stretches_of : FnScope ["blocks", "symbol", "level", "count"] ["blocks"] (defScope s_stretches_of) := ⟨rfl, rfl, rfl, by decide +kernel, rfl, by decide +kernel, by decide +kernel⟩
theorem w_stretches_of {f : Addr} {fd : FuncData} (B : Bi mg) (hsys : ∃ o es ep, base.get? sysModules = some o ∧ o.data = .dict es ep) (F : FunD K "stretches_of" "stretches_of" (defArgs s_stretches_of) (defBody s_stretches_of) (defScope s_stretches_of) [] [] f fd) (D_width_of : DefC P w K mg base 2 "width_of" ["symbol", "level"] [] c_width_of) : FnG P w K mg base 3 f fd ["blocks"] (spV K 1 c_stretches_of) :=
  ok_sat (t := b_stretches_of) F sc_stretches_of hsys (fun cdv A ou s H E rn po tk => ss_one (s_retO (o_lc (own := [("symbol", 1), ("level", 2), ("count", 3)]) rfl sc_stretches_of.nd (i_any (ev 0)) (blkOk_by (show blkC ["blocks", "symbol", "level", "count"] (defScope s_stretches_of) _ _ = true by decide +kernel)) (fun _ _ _ _ _ => si_tup rfl (sis_cons (si_name (i := 1) sc_stretches_of.nd) (sis_cons (si_name (i := 2) sc_stretches_of.nd) (sis_cons (si_name (i := 3) sc_stretches_of.nd) (sis_nil) (hm := gm_name)) (hm := gm_name)) (hm := gm_name))) (fun _ _ _ _ _ => tx_nil) (fun _ _ _ _ _ => e_tup (es_cons (e_op op_mulB b2_mulB (ev 3) (e_def D_width_of (rn.blk.mono (by decide)) tk0 (by rfl) (r_dat (ev 1) (r_dat (ev 2) (r_nil))))) (es_cons (ev 2) (es_nil))))))) p_stretches_of
abbrev s_take : Stmt := topS 30
theorem sc_take : FnScope ["stretches", "many", "found", "left", "positions", "level", "taken"] ["stretches", "many"] (defScope s_take) := ⟨rfl, rfl, rfl, by decide +kernel, rfl, by decide +kernel, by decide +kernel⟩
theorem w_take {f : Addr} {fd : FuncData} (B : Bi mg) (hsys : ∃ o es ep, base.get? sysModules = some o ∧ o.data = .dict es ep) (F : FunD K "take" "take" (defArgs s_take) (defBody s_take) (defScope s_take) [] [] f fd) : FnG P w K mg base 1 f fd ["stretches", "many"] (spV K 2 c_take) :=
  ok_sat (t := b_take) F sc_take hsys (fun cdv A ou s H E rn po tk => ss_cons (s_setO (i := 2) sc_take.nd (o_lst (es_nil)))
      (ss_cons (s_set (i := 3) sc_take.nd (ev 1))
      (ss_cons (s_while po (t_cmpV op_gtA b2_ord (vv 3) (v_int) (nomark _)) (ss_cons (s_asg (e_ownIx 0 (e_int) (fun _ _ => rfl)) (g_tup rfl (gs_cons (g_name (i := 4) sc_take.nd) (gs_cons (g_name (i := 5) sc_take.nd) (gs_nil) (hm := gm_name)) (hm := gm_name))))
      (ss_cons (s_set (i := 6) sc_take.nd (e_callB (call_min2 rfl) bn_min (by rfl) B.min_ (by decide +kernel) (es_cons (ev 4) (es_cons (ev 3) (es_nil)))))
      (ss_cons (s_put (i := 0) (e_tup (es_cons (e_op op_sub b2_sub (ev 4) (ev 6)) (es_cons (ev 5) (es_nil)))) (e_int))
      (ss_cons (s_if (t_cmpV (op_eqS rn.hr.units) b2_eq (vv 6) (vv 4) (nomark _)) (ss_one (s_expr (e_popAt (i := 0) (e_int) (hp := fun _ h => pe_bm PySem.F.plainAttrs_list PySem.F.slot_list_pop PySem.F.type_list_pop mt_popAt (pv 0) (pa_cons h pa_nil))))) (ss_nil))
      (ss_cons (s_aug (i := 3) sc_take.nd iop_sub b2_sub (ev 6))
      (ss_one (s_if (tw (tw_and (t_cmpV (op_neS rn.hr.units) b2_ne (vv 2) (v_lst (vs_nil)) (nomark _)) (tw_and1 (t_cmpV (op_eqS rn.hr.units) b2_eq (v_ix ix_seq b2_ix (v_ix ix_seq b2_ix (vv 2) (v_un un_neg b1_neg (v_int)) (fun _ _ => rfl)) (v_int) (fun _ _ => rfl)) (vv 5) (nomark _))))) (ss_one (s_put (i := 2) (e_tup (es_cons (e_op op_addB b2_addB (e_ix ix_seq b2_ix (e_ownIx 2 (e_un un_neg b1_neg (e_int)) (fun _ _ => rfl)) (e_int) (fun _ _ => rfl)) (ev 6)) (es_cons (ev 5) (es_nil)))) (e_un un_neg b1_neg (e_int)))) (ss_one (s_app (i := 2) (e_tup (es_cons (ev 6) (es_cons (ev 5) (es_nil)))) (hp := fun _ h => pe_bm PySem.F.plainAttrs_list PySem.F.slot_list_append PySem.F.type_list_append mt_append (pv 2) (pa_cons h pa_nil))))))))))))
      (ss_one (s_retV (i := 2)))))) p_take
abbrev s_blocks_with : Stmt := topS 31
theorem sc_blocks_with : FnScope ["pieces", "stretches", "blocks", "left", "symbol", "size", "many", "positions", "level", "step", "parts"] ["pieces", "stretches"] (defScope s_blocks_with) := ⟨rfl, rfl, rfl, by decide +kernel, rfl, by decide +kernel, by decide +kernel⟩
theorem w_blocks_with {f : Addr} {fd : FuncData} (B : Bi mg) (hsys : ∃ o es ep, base.get? sysModules = some o ∧ o.data = .dict es ep) (F : FunD K "blocks_with" "blocks_with" (defArgs s_blocks_with) (defBody s_blocks_with) (defScope s_blocks_with) [] [] f fd) (G_SPECIAL : GlC K mg "SPECIAL" (.tup [.str "\\", .str "\""])) (G_QUOTE : GlC K mg "QUOTE" (.str "\"")) (D_take : DefC P w K mg base 1 "take" ["stretches", "many"] [] c_take) (D_add_parts : DefC P w K mg base 2 "add_parts" ["blocks", "parts", "quoted"] [] c_add_parts) (D_add_block : DefC P w K mg base 1 "add_block" ["blocks", "symbol", "level", "count"] [] c_add_block) (D_power_of_two : DefC P w K mg base 1 "power_of_two" ["exponent"] [] c_power_of_two) : FnG P w K mg base 3 f fd ["pieces", "stretches"] (spV K 2 c_blocks_with) :=
  ok_sat (t := b_blocks_with) F sc_blocks_with hsys (fun cdv A ou s H E rn po tk => ss_cons (s_setO (i := 2) sc_blocks_with.nd (o_lst (es_nil)))
      (ss_cons (s_setO (i := 3) sc_blocks_with.nd (o_listA rfl (by rfl) B.list_ (es_cons (ev 1) (es_nil))))
      (ss_cons (s_for po rfl (i_any (ev 0)) (g_tup rfl (gs_cons (g_name (i := 4) sc_blocks_with.nd) (gs_cons (g_name (i := 5) sc_blocks_with.nd) (gs_cons (g_name (i := 6) sc_blocks_with.nd) (gs_nil) (hm := gm_name)) (hm := gm_name)) (hm := gm_name))) (ss_cons (s_if (tw (tw_or (t_cmpV op_notInA b2_in (vv 4) (v_glob G_SPECIAL (by rfl)) (by rfl)) (tw_or1 (t_cmpV (op_eqS rn.hr.units) b2_eq (vv 5) (v_int) (nomark _))))) (ss_cons (s_for po rfl (i_any (e_def D_take (rn.mono (by decide)) tk (by rfl) (r_io 3 (r_dat (ev 6) (r_nil))))) (g_tup rfl (gs_cons (g_name (i := 7) sc_blocks_with.nd) (gs_cons (g_name (i := 8) sc_blocks_with.nd) (gs_nil) (hm := gm_name)) (hm := gm_name))) (ss_one (s_expr (e_def D_add_block (rn.mono (by decide)) tk (by rfl) (r_io 2 (r_dat (ev 4) (r_dat (ev 8) (r_dat (ev 7) (r_nil)))))))))
      (ss_one (s_continue))) (ss_nil))
      (ss_one (s_for po rfl (i_range1 (by rfl) B.range_ (es_cons (ev 6) (es_nil))) (g_name (i := 9) sc_blocks_with.nd) (ss_cons (by first | exact s_setLcD (i := 10) (own := [("positions", 7), ("level", 8)]) rfl sc_blocks_with.nd (i_any (e_def D_take (rn.mono (by decide)) tk (by rfl) (r_io 3 (r_dat (ev 5) (r_nil))))) (blkOk_by (show blkC ["pieces", "stretches", "blocks", "left", "symbol", "size", "many", "positions", "level", "step", "parts"] (defScope s_blocks_with) _ _ = true by decide +kernel)) (fun _ _ _ _ _ => si_tup rfl (sis_cons (si_name (i := 7) sc_blocks_with.nd) (sis_cons (si_name (i := 8) sc_blocks_with.nd) (sis_nil) (hm := gm_name)) (hm := gm_name))) (fun _ _ _ _ _ => tx_nil) (fun _ _ _ _ _ => e_tup (es_cons (ev 8) (es_cons (e_op op_fdivW b2_div (ev 7) (e_def D_power_of_two (rn.blk.mono (by decide)) tk0 (by rfl) (r_dat (ev 8) (r_nil)))) (es_nil)))) | exact s_set (i := 10) sc_blocks_with.nd (e_frz (o_lc (own := [("positions", 7), ("level", 8)]) rfl sc_blocks_with.nd (i_any (e_def D_take (rn.mono (by decide)) tk (by rfl) (r_io 3 (r_dat (ev 5) (r_nil))))) (blkOk_by (show blkC ["pieces", "stretches", "blocks", "left", "symbol", "size", "many", "positions", "level", "step", "parts"] (defScope s_blocks_with) _ _ = true by decide +kernel)) (fun _ _ _ _ _ => si_tup rfl (sis_cons (si_name (i := 7) sc_blocks_with.nd) (sis_cons (si_name (i := 8) sc_blocks_with.nd) (sis_nil) (hm := gm_name)) (hm := gm_name))) (fun _ _ _ _ _ => tx_nil) (fun _ _ _ _ _ => e_tup (es_cons (ev 8) (es_cons (e_op op_fdivW b2_div (ev 7) (e_def D_power_of_two (rn.blk.mono (by decide)) tk0 (by rfl) (r_dat (ev 8) (r_nil)))) (es_nil)))))))
      (ss_one (s_expr (e_def D_add_parts (rn.mono (by decide)) tk (by rfl) (r_io 2 (r_dat (ev 10) (r_dat (e_cmp (op_eqS rn.hr.units) b2_eq (ev 4) (e_glob G_QUOTE (by rfl)) (nomark _)) (r_nil))))))))))))
      (ss_one (s_retV (i := 2)))))) p_blocks_with
abbrev s_count_by : Stmt := topS 32
theorem sc_count_by : FnScope ["blocks", "symbol", "level", "count"] ["blocks"] (defScope s_count_by) := ⟨rfl, rfl, rfl, by decide +kernel, rfl, by decide +kernel, by decide +kernel⟩
theorem w_count_by {f : Addr} {fd : FuncData} (B : Bi mg) (hsys : ∃ o es ep, base.get? sysModules = some o ∧ o.data = .dict es ep) (F : FunD K "count_by" "count_by" (defArgs s_count_by) (defBody s_count_by) (defScope s_count_by) [] [] f fd) : FnG P w K mg base 1 f fd ["blocks"] (spV K 1 c_count_by) :=
  ok_sat (t := b_count_by) F sc_count_by hsys (fun cdv A ou s H E rn po tk => ss_one (s_ret (e_callB (cr_sum rfl) bn_sum (by rfl) B.sum_ (by decide +kernel) (es_cons (e_frz (o_lc (own := [("symbol", 1), ("level", 2), ("count", 3)]) rfl sc_count_by.nd (i_any (ev 0)) (blkOk_by (show blkC ["blocks", "symbol", "level", "count"] (defScope s_count_by) _ _ = true by decide +kernel)) (fun _ _ _ _ _ => si_tup rfl (sis_cons (si_name (i := 1) sc_count_by.nd) (sis_cons (si_name (i := 2) sc_count_by.nd) (sis_cons (si_name (i := 3) sc_count_by.nd) (sis_nil) (hm := gm_name)) (hm := gm_name)) (hm := gm_name))) (fun _ _ _ _ _ => tx_nil) (fun _ _ _ _ _ => ev 3))) (es_nil))))) p_count_by
abbrev s_with_level : Stmt := topS 33
theorem sc_with_level : FnScope ["blocks", "start", "size", "level", "left", "stretches"] ["blocks", "start", "size", "level"] (defScope s_with_level) := ⟨rfl, rfl, rfl, by decide +kernel, rfl, by decide +kernel, by decide +kernel⟩
theorem w_with_level {f : Addr} {fd : FuncData} (B : Bi mg) (hsys : ∃ o es ep, base.get? sysModules = some o ∧ o.data = .dict es ep) (F : FunD K "with_level" "with_level" (defArgs s_with_level) (defBody s_with_level) (defScope s_with_level) [] [] f fd) (D_stretches_of : DefC P w K mg base 3 "stretches_of" ["blocks"] [] c_stretches_of) (D_take : DefC P w K mg base 1 "take" ["stretches", "many"] [] c_take) (D_blocks_with : DefC P w K mg base 3 "blocks_with" ["pieces", "stretches"] [] c_blocks_with) (D_pieces_of : DefC P w K mg base 3 "pieces_of" ["blocks"] [] c_pieces_of) : FnG P w K mg base 4 f fd ["blocks", "start", "size", "level"] (spV K 4 c_with_level) :=
  ok_sat (t := b_with_level) F sc_with_level hsys (fun cdv A ou s H E rn po tk => ss_cons (s_setO (i := 4) sc_with_level.nd (o_def D_stretches_of (rn.mono (by decide)) tk (by rfl) (r_dat (ev 0) (r_nil))))
      (ss_cons (s_set (i := 5) sc_with_level.nd (e_op op_addB b2_addB (e_def D_take (rn.mono (by decide)) tk (by rfl) (r_io 4 (r_dat (ev 1) (r_nil)))) (e_frz (o_lst (es_cons (e_tup (es_cons (ev 2) (es_cons (ev 3) (es_nil)))) (es_nil))))))
      (ss_cons (s_expr (e_def D_take (rn.mono (by decide)) tk (by rfl) (r_io 4 (r_dat (ev 2) (r_nil)))))
      (ss_one (s_retO (o_def D_blocks_with (rn.mono (by decide)) tk (by rfl) (r_dat (e_def D_pieces_of (rn.mono (by decide)) tk (by rfl) (r_dat (ev 0) (r_nil))) (r_dat (e_op op_addB b2_addB (ev 5) (ev 4)) (r_nil))))))))) p_with_level
abbrev s_lowered_by : Stmt := topS 34
theorem sc_lowered_by : FnScope ["blocks", "number", "found", "symbol", "level", "start", "size", "following"] ["blocks", "number"] (defScope s_lowered_by) := ⟨rfl, rfl, rfl, by decide +kernel, rfl, by decide +kernel, by decide +kernel⟩
theorem w_lowered_by {f : Addr} {fd : FuncData} (B : Bi mg) (hsys : ∃ o es ep, base.get? sysModules = some o ∧ o.data = .dict es ep) (F : FunD K "lowered_by" "lowered_by" (defArgs s_lowered_by) (defBody s_lowered_by) (defScope s_lowered_by) [] [] f fd) (D_numbered_by : DefC P w K mg base 3 "numbered_by" ["blocks", "number"] [] c_numbered_by) (D_with_level : DefC P w K mg base 4 "with_level" ["blocks", "start", "size", "level"] [] c_with_level) : FnG P w K mg base 5 f fd ["blocks", "number"] (spV K 2 c_lowered_by) :=
  ok_sat (t := b_lowered_by) F sc_lowered_by hsys (fun cdv A ou s H E rn po tk => ss_cons (s_asg (e_def D_numbered_by (rn.mono (by decide)) tk (by rfl) (r_dat (ev 0) (r_dat (ev 1) (r_nil)))) (g_tup rfl (gs_cons (g_name (i := 2) sc_lowered_by.nd) (gs_cons (g_name (i := 3) sc_lowered_by.nd) (gs_cons (g_name (i := 4) sc_lowered_by.nd) (gs_cons (g_name (i := 5) sc_lowered_by.nd) (gs_cons (g_name (i := 6) sc_lowered_by.nd) (gs_nil) (hm := gm_name)) (hm := gm_name)) (hm := gm_name)) (hm := gm_name)) (hm := gm_name))))
      (ss_cons (s_set (i := 7) sc_lowered_by.nd (e_def D_numbered_by (rn.mono (by decide)) tk (by rfl) (r_dat (ev 0) (r_dat (e_op op_addB b2_addB (ev 1) (e_int)) (r_nil)))))
      (ss_cons (s_if (tw (tw_or (t_cmpV (op_eqS rn.hr.units) b2_eq (vv 4) (v_int) (nomark _)) (tw_or1 (tw (tw_and (t_cmpV op_notN b2_notN (vv 7) (v_non) (nomark _)) (tw_and1 (t_cmpV (op_eqS rn.hr.units) b2_eq (v_ix ix_seq b2_ix (vv 7) (v_int) (fun _ _ => rfl)) (vv 4) (nomark _)))))))) (ss_one (s_ret (e_non))) (ss_nil))
      (ss_one (s_ret (e_def D_with_level (rn.mono (by decide)) tk (by rfl) (r_dat (ev 0) (r_dat (ev 5) (r_dat (ev 6) (r_dat (e_op op_sub b2_sub (ev 4) (e_int)) (r_nil))))))))))) p_lowered_by
abbrev s_raised_by : Stmt := topS 35
theorem sc_raised_by : FnScope ["blocks", "number", "found", "symbol", "level", "start", "size", "before", "following"] ["blocks", "number"] (defScope s_raised_by) := ⟨rfl, rfl, rfl, by decide +kernel, rfl, by decide +kernel, by decide +kernel⟩
theorem w_raised_by {f : Addr} {fd : FuncData} (B : Bi mg) (hsys : ∃ o es ep, base.get? sysModules = some o ∧ o.data = .dict es ep) (F : FunD K "raised_by" "raised_by" (defArgs s_raised_by) (defBody s_raised_by) (defScope s_raised_by) [] [] f fd) (G_MAX_ESCAPES : GlC K mg "MAX_ESCAPES" (.int 200)) (G_QUOTE : GlC K mg "QUOTE" (.str "\"")) (G_BACKSLASH : GlC K mg "BACKSLASH" (.str "\\")) (G_SPECIAL : GlC K mg "SPECIAL" (.tup [.str "\\", .str "\""])) (D_numbered_by : DefC P w K mg base 3 "numbered_by" ["blocks", "number"] [] c_numbered_by) (D_with_level : DefC P w K mg base 4 "with_level" ["blocks", "start", "size", "level"] [] c_with_level) : FnG P w K mg base 5 f fd ["blocks", "number"] (spV K 2 c_raised_by) :=
  ok_sat (t := b_raised_by) F sc_raised_by hsys (fun cdv A ou s H E rn po tk => ss_cons (s_asg (e_def D_numbered_by (rn.mono (by decide)) tk (by rfl) (r_dat (ev 0) (r_dat (ev 1) (r_nil)))) (g_tup rfl (gs_cons (g_name (i := 2) sc_raised_by.nd) (gs_cons (g_name (i := 3) sc_raised_by.nd) (gs_cons (g_name (i := 4) sc_raised_by.nd) (gs_cons (g_name (i := 5) sc_raised_by.nd) (gs_cons (g_name (i := 6) sc_raised_by.nd) (gs_nil) (hm := gm_name)) (hm := gm_name)) (hm := gm_name)) (hm := gm_name)) (hm := gm_name))))
      (ss_cons (s_set (i := 7) sc_raised_by.nd (e_if (t_cmpV op_gtA b2_ord (vv 1) (v_int) (nomark _)) (e_def D_numbered_by (rn.mono (by decide)) tk (by rfl) (r_dat (ev 0) (r_dat (e_op op_sub b2_sub (ev 1) (e_int)) (r_nil)))) (e_non)))
      (ss_cons (s_set (i := 8) sc_raised_by.nd (e_def D_numbered_by (rn.mono (by decide)) tk (by rfl) (r_dat (ev 0) (r_dat (e_op op_addB b2_addB (ev 1) (e_int)) (r_nil)))))
      (ss_cons (s_if (tw (tw_or (t_cmpV (op_eqS rn.hr.units) b2_eq (vv 4) (v_glob G_MAX_ESCAPES (by rfl)) (nomark _)) (tw_or (tw (tw_and (t_cmpV op_notN b2_notN (vv 7) (v_non) (nomark _)) (tw_and1 (t_cmpV (op_eqS rn.hr.units) b2_eq (v_ix ix_seq b2_ix (vv 7) (v_int) (fun _ _ => rfl)) (vv 4) (nomark _))))) (tw_or1 (t_cmpV (op_eqS rn.hr.units) b2_eq (vv 3) (v_glob G_QUOTE (by rfl)) (nomark _)))))) (ss_one (s_ret (e_non))) (ss_nil))
      (ss_cons (s_if (t_cmpV (op_eqS rn.hr.units) b2_eq (vv 3) (v_glob G_BACKSLASH (by rfl)) (nomark _)) (ss_cons (s_if (tw (tw_or (t_cmpV op_isN b2_isN (vv 8) (v_non) (nomark _)) (tw_or (t_cmpV op_notInA b2_in (v_ix ix_seq b2_ix (vv 8) (v_int) (fun _ _ => rfl)) (v_glob G_SPECIAL (by rfl)) (by rfl)) (tw_or1 (t_cmpV (op_neS rn.hr.units) b2_ne (v_ix ix_seq b2_ix (vv 8) (v_int) (fun _ _ => rfl)) (vv 4) (nomark _)))))) (ss_one (s_ret (e_non))) (ss_nil))
      (ss_one (s_aug (i := 6) sc_raised_by.nd iop_mul b2_mulS (e_int)))) (ss_nil))
      (ss_one (s_ret (e_def D_with_level (rn.mono (by decide)) tk (by rfl) (r_dat (ev 0) (r_dat (ev 5) (r_dat (ev 6) (r_dat (e_op op_addB b2_addB (ev 4) (e_int)) (r_nil))))))))))))) p_raised_by
abbrev s_checked_number : Stmt := topS 36
theorem sc_checked_number : FnScope ["history", "number", "blocks"] ["history", "number"] (defScope s_checked_number) := ⟨rfl, rfl, rfl, by decide +kernel, rfl, by decide +kernel, by decide +kernel⟩
theorem w_checked_number {f : Addr} {fd : FuncData} (B : Bi mg) (hsys : ∃ o es ep, base.get? sysModules = some o ∧ o.data = .dict es ep) (F : FunD K "checked_number" "checked_number" (defArgs s_checked_number) (defBody s_checked_number) (defScope s_checked_number) [] [] f fd) (D_checked_blocks : DefC P w K mg base 6 "checked_blocks" ["history"] [] c_checked_blocks) (D_is_integer : DefC P w K mg base 1 "is_integer" ["value", "low", "high"] [] c_is_integer) (D_count_by : DefC P w K mg base 1 "count_by" ["blocks"] [] c_count_by) (RA_InvalidNumber : RaiC K mg "InvalidNumber") : FnG P w K mg base 7 f fd ["history", "number"] (spV K 2 c_checked_number) :=
  ok_sat (t := b_checked_number) F sc_checked_number hsys (fun cdv A ou s H E rn po tk => ss_cons (s_set (i := 2) sc_checked_number.nd (e_def D_checked_blocks (rn.mono (by decide)) tk (by rfl) (r_dat (ev 0) (r_nil))))
      (ss_cons (s_if (t_not (t_truV (v_def D_is_integer (rn.mono (by decide)) tk0 (by rfl) (vr_cons (vv 1) (vr_cons (v_int) (vr_cons (v_op op_sub b2_sub (v_def D_count_by (rn.mono (by decide)) tk0 (by rfl) (vr_cons (vv 2) (vr_nil))) (v_int)) (vr_nil))))))) (ss_one (s_raise0 rfl tk RA_InvalidNumber (by rfl))) (ss_nil))
      (ss_one (s_ret (ev 2))))) p_checked_number
abbrev s_lowered : Stmt := topS 37
theorem sc_lowered : FnScope ["history", "number", "found"] ["history", "number"] (defScope s_lowered) := ⟨rfl, rfl, rfl, by decide +kernel, rfl, by decide +kernel, by decide +kernel⟩
theorem w_lowered {f : Addr} {fd : FuncData} (B : Bi mg) (hsys : ∃ o es ep, base.get? sysModules = some o ∧ o.data = .dict es ep) (F : FunD K "lowered" "lowered" (defArgs s_lowered) (defBody s_lowered) (defScope s_lowered) [] [] f fd) (D_lowered_by : DefC P w K mg base 5 "lowered_by" ["blocks", "number"] [] c_lowered_by) (D_checked_number : DefC P w K mg base 7 "checked_number" ["history", "number"] [] c_checked_number) (RA_NoMove : RaiC K mg "NoMove") : FnG P w K mg base 8 f fd ["history", "number"] (spV K 2 c_lowered) :=
  ok_sat (t := b_lowered) F sc_lowered hsys (fun cdv A ou s H E rn po tk => ss_cons (s_set (i := 2) sc_lowered.nd (e_def D_lowered_by (rn.mono (by decide)) tk (by rfl) (r_dat (e_def D_checked_number (rn.mono (by decide)) tk (by rfl) (r_dat (ev 0) (r_dat (ev 1) (r_nil)))) (r_dat (ev 1) (r_nil)))))
      (ss_cons (s_if (t_cmpV op_isN b2_isN (vv 2) (v_non) (nomark _)) (ss_one (s_raise0 rfl tk RA_NoMove (by rfl))) (ss_nil))
      (ss_one (s_ret (ev 2))))) p_lowered
abbrev s_raised : Stmt := topS 38
theorem sc_raised : FnScope ["history", "number", "found"] ["history", "number"] (defScope s_raised) := ⟨rfl, rfl, rfl, by decide +kernel, rfl, by decide +kernel, by decide +kernel⟩
theorem w_raised {f : Addr} {fd : FuncData} (B : Bi mg) (hsys : ∃ o es ep, base.get? sysModules = some o ∧ o.data = .dict es ep) (F : FunD K "raised" "raised" (defArgs s_raised) (defBody s_raised) (defScope s_raised) [] [] f fd) (D_raised_by : DefC P w K mg base 5 "raised_by" ["blocks", "number"] [] c_raised_by) (D_checked_number : DefC P w K mg base 7 "checked_number" ["history", "number"] [] c_checked_number) (RA_NoMove : RaiC K mg "NoMove") : FnG P w K mg base 8 f fd ["history", "number"] (spV K 2 c_raised) :=
  ok_sat (t := b_raised) F sc_raised hsys (fun cdv A ou s H E rn po tk => ss_cons (s_set (i := 2) sc_raised.nd (e_def D_raised_by (rn.mono (by decide)) tk (by rfl) (r_dat (e_def D_checked_number (rn.mono (by decide)) tk (by rfl) (r_dat (ev 0) (r_dat (ev 1) (r_nil)))) (r_dat (ev 1) (r_nil)))))
      (ss_cons (s_if (t_cmpV op_isN b2_isN (vv 2) (v_non) (nomark _)) (ss_one (s_raise0 rfl tk RA_NoMove (by rfl))) (ss_nil))
      (ss_one (s_ret (ev 2))))) p_raised
abbrev s_l_bag : Stmt := topS 40
theorem sc_l_bag : FnScope ["_law_script", "_law_total", "_law_cell"] ["_law_script"] (defScope s_l_bag) := ⟨rfl, rfl, rfl, by decide +kernel, rfl, by decide +kernel, by decide +kernel⟩
theorem w_l_bag {f : Addr} {fd : FuncData} (B : Bi mg) (hsys : ∃ o es ep, base.get? sysModules = some o ∧ o.data = .dict es ep) (F : FunD K "_law_bag" "_law_bag" (defArgs s_l_bag) (defBody s_l_bag) (defScope s_l_bag) [] [] f fd) : FnG P w K mg base 1 f fd ["_law_script"] (spV K 1 c_l_bag) :=
  ok_sat (t := b_l_bag) F sc_l_bag hsys (fun cdv A ou s H E rn po tk => ss_cons (s_set (i := 1) sc_l_bag.nd (e_int))
      (ss_cons (s_for po rfl (i_any (ev 0)) (g_name (i := 2) sc_l_bag.nd) (ss_one (s_set (i := 1) sc_l_bag.nd (e_op op_mod b2_mod (e_op op_addB b2_addB (e_op op_addB b2_addB (e_op op_mulB b2_mulB (ev 1) (e_int)) (e_op op_mod b2_mod (ev 2) (e_int))) (e_int)) (e_int)))))
      (ss_one (s_retO (o_lst (es_cons (e_frz (o_listA rfl (by rfl) B.list_ (es_cons (ev 0) (es_nil)))) (es_cons (e_int) (es_cons (e_int) (es_cons (e_int) (es_cons (ev 1) (es_nil))))))))))) p_l_bag
abbrev s_l_stir : Stmt := topS 41
theorem sc_l_stir : FnScope ["_law_number", "_law_place", "_law_one", "_law_two"] ["_law_number", "_law_place"] (defScope s_l_stir) := ⟨rfl, rfl, rfl, by decide +kernel, rfl, by decide +kernel, by decide +kernel⟩
theorem w_l_stir {f : Addr} {fd : FuncData} (B : Bi mg) (hsys : ∃ o es ep, base.get? sysModules = some o ∧ o.data = .dict es ep) (F : FunD K "_law_stir" "_law_stir" (defArgs s_l_stir) (defBody s_l_stir) (defScope s_l_stir) [] [] f fd) : FnG P w K mg base 1 f fd ["_law_number", "_law_place"] (spV K 2 c_l_stir) :=
  ok_sat (t := b_l_stir) F sc_l_stir hsys (fun cdv A ou s H E rn po tk => ss_cons (s_set (i := 2) sc_l_stir.nd (e_op op_mod b2_mod (e_op op_addB b2_addB (e_op op_addB b2_addB (e_op op_mulB b2_mulB (ev 0) (e_int)) (e_op op_mulB b2_mulB (ev 1) (e_int))) (e_int)) (e_int)))
      (ss_cons (s_set (i := 3) sc_l_stir.nd (e_op op_mod b2_mod (e_op op_mulB b2_mulB (ev 2) (ev 2)) (e_int)))
      (ss_one (s_ret (e_op op_fdivW b2_div (e_op op_mod b2_mod (e_op op_addB b2_addB (e_op op_addB b2_addB (e_op op_mulB b2_mulB (ev 3) (e_int)) (e_op op_mulB b2_mulB (e_op op_mulB b2_mulB (ev 1) (ev 1)) (e_int))) (e_op op_fdivW b2_div (ev 2) (e_int))) (e_int)) (e_int)))))) p_l_stir
abbrev s_g_draw : Stmt := topS 42
theorem sc_g_draw : FnScope ["_law_bag_here", "_law_bound", "_law_cell", "_law_found"] ["_law_bag_here", "_law_bound"] (defScope s_g_draw) := ⟨rfl, rfl, rfl, by decide +kernel, rfl, by decide +kernel, by decide +kernel⟩
theorem w_g_draw {f : Addr} {fd : FuncData} (B : Bi mg) (hsys : ∃ o es ep, base.get? sysModules = some o ∧ o.data = .dict es ep) (F : FunD K "_law_draw" "_law_draw" (defArgs s_g_draw) (defBody s_g_draw) (defScope s_g_draw) [] [] f fd) (D_l_stir : DefC P w K mg base 1 "_law_stir" ["_law_number", "_law_place"] [] c_l_stir) : FnG P w K mg base 2 f fd ["_law_bag_here", "_law_bound"] (spV K 2 c_g_draw) :=
  ok_sat (t := b_g_draw) F sc_g_draw hsys (fun cdv A ou s H E rn po tk => ss_cons (s_if (t_cmpV (op_eqS rn.hr.units) b2_eq (vv 1) (v_int) (nomark _)) (ss_one (s_ret (e_int))) (ss_nil))
      (ss_cons (s_put (i := 0) (e_op op_addB b2_addB (e_ownIx 0 (e_int) (fun _ _ => rfl)) (e_int)) (e_int))
      (ss_cons (s_if (tw (tw_and (t_cmpV op_ltA b2_ord (v_ix ix_seq b2_ix (vv 0) (v_int) (fun _ _ => rfl)) (v_int) (nomark _)) (tw_and1 (t_cmpV (op_eqS rn.hr.units) b2_eq (v_ix ix_seq b2_ix (vv 0) (v_int) (fun _ _ => rfl)) (v_callB call_len bn_len (by rfl) B.len_ (by decide +kernel) (vs_cons (v_ix ix_seq b2_ix (vv 0) (v_int) (fun _ _ => rfl)) (vs_nil))) (nomark _))))) (ss_one (s_ret (e_op op_mod b2_mod (e_def D_l_stir (rn.mono (by decide)) tk (by rfl) (r_dat (e_ownIx 0 (e_int) (fun _ _ => rfl)) (r_dat (e_ownIx 0 (e_int) (fun _ _ => rfl)) (r_nil)))) (ev 1)))) (ss_nil))
      (ss_cons (s_if (t_cmpV op_ltA b2_ord (v_ix ix_seq b2_ix (vv 0) (v_int) (fun _ _ => rfl)) (v_int) (nomark _)) (ss_cons (s_set (i := 2) sc_g_draw.nd (e_ix ix_seq b2_ix (e_ownIx 0 (e_int) (fun _ _ => rfl)) (e_ownIx 0 (e_int) (fun _ _ => rfl)) (fun _ _ => rfl)))
      (ss_cons (s_put (i := 0) (e_op op_addB b2_addB (e_ownIx 0 (e_int) (fun _ _ => rfl)) (e_int)) (e_int))
      (ss_cons (s_if (t_cmpV op_ltA b2_ord (vv 2) (v_op op_pow b2_pow (v_int) (v_int)) (nomark _)) (ss_one (s_ret (e_op op_mod b2_mod (e_def D_l_stir (rn.mono (by decide)) tk (by rfl) (r_dat (e_op op_mod b2_mod (ev 2) (e_int)) (r_dat (e_ownIx 0 (e_int) (fun _ _ => rfl)) (r_nil)))) (ev 1)))) (ss_nil))
      (ss_one (s_put (i := 0) (e_op op_sub b2_sub (ev 2) (e_op op_pow b2_pow (e_int) (e_int))) (e_int)))))) (ss_nil))
      (ss_cons (s_set (i := 3) sc_g_draw.nd (e_op op_mod b2_mod (e_ownIx 0 (e_int) (fun _ _ => rfl)) (ev 1)))
      (ss_cons (s_put (i := 0) (e_op op_fdivW b2_div (e_ownIx 0 (e_int) (fun _ _ => rfl)) (ev 1)) (e_int))
      (ss_one (s_ret (ev 3))))))))) p_g_draw
abbrev s_l_shuffled : Stmt := topS 43
theorem sc_l_shuffled : FnScope ["_law_bag_here", "_law_items", "_law_left", "_law_step"] ["_law_bag_here", "_law_items"] (defScope s_l_shuffled) := ⟨rfl, rfl, rfl, by decide +kernel, rfl, by decide +kernel, by decide +kernel⟩
theorem w_l_shuffled {f : Addr} {fd : FuncData} (B : Bi mg) (hsys : ∃ o es ep, base.get? sysModules = some o ∧ o.data = .dict es ep) (F : FunD K "_law_shuffled" "_law_shuffled" (defArgs s_l_shuffled) (defBody s_l_shuffled) (defScope s_l_shuffled) [] [] f fd) (D_g_draw : DefC P w K mg base 2 "_law_draw" ["_law_bag_here", "_law_bound"] [] c_g_draw) : FnG P w K mg base 3 f fd ["_law_bag_here", "_law_items"] (spV K 2 c_l_shuffled) :=
  ok_sat (t := b_l_shuffled) F sc_l_shuffled hsys (fun cdv A ou s H E rn po tk => ss_cons (s_setO (i := 2) sc_l_shuffled.nd (o_listA rfl (by rfl) B.list_ (es_cons (ev 1) (es_nil))))
      (ss_one (s_retO (o_lc (own := [("_law_step", 3)]) rfl sc_l_shuffled.nd (i_range1 (by rfl) B.range_ (es_cons (e_callB call_len bn_len (by rfl) B.len_ (by decide +kernel) (es_cons (ev 1) (es_nil))) (es_nil))) (blkOk_by (show blkC ["_law_bag_here", "_law_items", "_law_left", "_law_step"] (defScope s_l_shuffled) _ _ = true by decide +kernel)) (fun _ _ _ _ _ => si_name (i := 3) sc_l_shuffled.nd) (fun _ _ _ _ _ => tx_nil) (fun _ _ _ _ _ => e_popAt (i := 2) (e_def D_g_draw (rn.blk.mono (by decide)) tk0 (by rfl) (r_io 0 (r_dat (e_flat (v_callB call_len bn_len (by rfl) B.len_ (by decide +kernel) (vs_cons (vv 2) (vs_nil)))) (r_nil)))) (hp := fun _ h => pe_bm PySem.F.plainAttrs_list PySem.F.slot_list_pop PySem.F.type_list_pop mt_popAt (pv 2) (pa_cons h pa_nil))))))) p_l_shuffled
abbrev s_l_either : Stmt := topS 44
theorem sc_l_either : FnScope ["_law_bag_here", "_law_items"] ["_law_bag_here", "_law_items"] (defScope s_l_either) := ⟨rfl, rfl, rfl, by decide +kernel, rfl, by decide +kernel, by decide +kernel⟩
theorem w_l_either {f : Addr} {fd : FuncData} (B : Bi mg) (hsys : ∃ o es ep, base.get? sysModules = some o ∧ o.data = .dict es ep) (F : FunD K "_law_either" "_law_either" (defArgs s_l_either) (defBody s_l_either) (defScope s_l_either) [] [] f fd) (D_g_draw : DefC P w K mg base 2 "_law_draw" ["_law_bag_here", "_law_bound"] [] c_g_draw) : FnG P w K mg base 3 f fd ["_law_bag_here", "_law_items"] (spV K 2 c_l_either) :=
  ok_sat (t := b_l_either) F sc_l_either hsys (fun cdv A ou s H E rn po tk => ss_one (s_ret (e_ix ix_seq b2_ix (e_frz (o_lst (es_cons (e_frz (o_listA rfl (by rfl) B.list_ (es_cons (ev 1) (es_nil)))) (es_cons (e_callT call_tuple_of bn_tuple (by rfl) B.tuple_ (by decide +kernel) (es_cons (ev 1) (es_nil))) (es_nil))))) (e_def D_g_draw (rn.mono (by decide)) tk (by rfl) (r_io 0 (r_dat (e_int) (r_nil)))) (fun _ _ => rfl)))) p_l_either
abbrev s_l_escaped : Stmt := topS 45
theorem sc_l_escaped : FnScope ["_law_string_here", "_law_times", "_law_step", "_law_sign"] ["_law_string_here", "_law_times"] (defScope s_l_escaped) := ⟨rfl, rfl, rfl, by decide +kernel, rfl, by decide +kernel, by decide +kernel⟩
theorem w_l_escaped {f : Addr} {fd : FuncData} (B : Bi mg) (hsys : ∃ o es ep, base.get? sysModules = some o ∧ o.data = .dict es ep) (F : FunD K "_law_escaped" "_law_escaped" (defArgs s_l_escaped) (defBody s_l_escaped) (defScope s_l_escaped) [] [] f fd) : FnG P w K mg base 1 f fd ["_law_string_here", "_law_times"] (spV K 2 c_l_escaped) :=
  ok_sat (t := b_l_escaped) F sc_l_escaped hsys (fun cdv A ou s H E rn po tk => ss_cons (s_for po rfl (i_range1 (by rfl) B.range_ (es_cons (ev 1) (es_nil))) (g_name (i := 2) sc_l_escaped.nd) (ss_one (s_set (i := 0) sc_l_escaped.nd (e_join (e_str) (e_frz (o_lc (own := [("_law_sign", 3)]) rfl sc_l_escaped.nd (i_any (ev 0)) (blkOk_by (show blkC ["_law_string_here", "_law_times", "_law_step", "_law_sign"] (defScope s_l_escaped) _ _ = true by decide +kernel)) (fun _ _ _ _ _ => si_name (i := 3) sc_l_escaped.nd) (fun _ _ _ _ _ => tx_nil) (fun _ _ _ _ _ => e_if (t_cmpV op_inA b2_in (vv 3) (v_str) (by rfl)) (e_op op_addB b2_addB (e_str) (ev 3)) (ev 3))))))))
      (ss_one (s_ret (ev 0)))) p_l_escaped
abbrev s_l_plains : Stmt := topS 46
theorem sc_l_plains : FnScope ["_law_letters"] [] (defScope s_l_plains) := ⟨rfl, rfl, rfl, by decide +kernel, rfl, by decide +kernel, by decide +kernel⟩
theorem w_l_plains {f : Addr} {fd : FuncData} (B : Bi mg) (hsys : ∃ o es ep, base.get? sysModules = some o ∧ o.data = .dict es ep) (F : FunD K "_law_plains" "_law_plains" (defArgs s_l_plains) (defBody s_l_plains) (defScope s_l_plains) [] [] f fd) : FnG P w K mg base 1 f fd [] (spV K 0 c_l_plains) :=
  ok_sat (t := b_l_plains) F sc_l_plains hsys (fun cdv A ou s H E rn po tk => ss_cons (s_set (i := 0) sc_l_plains.nd (e_str))
      (ss_one (s_ret (e_op op_addB b2_addB (e_op op_addB b2_addB (ev 0) (e_upp (ev 0))) (e_str))))) p_l_plains
abbrev s_l_plain : Stmt := topS 47
theorem sc_l_plain : FnScope ["_law_bag_here", "_law_signs"] ["_law_bag_here"] (defScope s_l_plain) := ⟨rfl, rfl, rfl, by decide +kernel, rfl, by decide +kernel, by decide +kernel⟩
theorem w_l_plain {f : Addr} {fd : FuncData} (B : Bi mg) (hsys : ∃ o es ep, base.get? sysModules = some o ∧ o.data = .dict es ep) (F : FunD K "_law_plain" "_law_plain" (defArgs s_l_plain) (defBody s_l_plain) (defScope s_l_plain) [] [] f fd) (D_l_plains : DefC P w K mg base 1 "_law_plains" [] [] c_l_plains) (D_g_draw : DefC P w K mg base 2 "_law_draw" ["_law_bag_here", "_law_bound"] [] c_g_draw) : FnG P w K mg base 3 f fd ["_law_bag_here"] (spV K 1 c_l_plain) :=
  ok_sat (t := b_l_plain) F sc_l_plain hsys (fun cdv A ou s H E rn po tk => ss_cons (s_set (i := 1) sc_l_plain.nd (e_def0 D_l_plains (rn.mono (by decide)) tk (by rfl)))
      (ss_one (s_ret (e_ix ix_seq b2_ix (e_frz (o_lst (es_cons (e_str) (es_cons (e_str) (es_cons (e_ix ix_seq b2_ix (ev 1) (e_def D_g_draw (rn.mono (by decide)) tk (by rfl) (r_io 0 (r_dat (e_callB call_len bn_len (by rfl) B.len_ (by decide +kernel) (es_cons (ev 1) (es_nil))) (r_nil)))) (fun _ _ => rfl)) (es_nil)))))) (e_def D_g_draw (rn.mono (by decide)) tk (by rfl) (r_io 0 (r_dat (e_int) (r_nil)))) (fun _ _ => rfl))))) p_l_plain
abbrev s_r_string : Stmt := topS 48
theorem sc_r_string : FnScope ["_law_bag_here", "_law_most", "_law_found", "_law_step", "_law_other"] ["_law_bag_here", "_law_most"] (defScope s_r_string) := ⟨rfl, rfl, rfl, by decide +kernel, rfl, by decide +kernel, by decide +kernel⟩
theorem w_r_string {f : Addr} {fd : FuncData} (B : Bi mg) (hsys : ∃ o es ep, base.get? sysModules = some o ∧ o.data = .dict es ep) (F : FunD K "_law_string" "_law_string" (defArgs s_r_string) (defBody s_r_string) (defScope s_r_string) [] [] f fd) (D_g_draw : DefC P w K mg base 2 "_law_draw" ["_law_bag_here", "_law_bound"] [] c_g_draw) (D_l_escaped : DefC P w K mg base 1 "_law_escaped" ["_law_string_here", "_law_times"] [] c_l_escaped) (D_l_plain : DefC P w K mg base 3 "_law_plain" ["_law_bag_here"] [] c_l_plain) : FnG P w K mg base 4 f fd ["_law_bag_here", "_law_most"] (spV K 2 c_r_string) :=
  ok_sat (t := b_r_string) F sc_r_string hsys (fun cdv A ou s H E rn po tk => ss_cons (s_set (i := 2) sc_r_string.nd (e_str))
      (ss_cons (s_for po rfl (i_range1 (by rfl) B.range_ (es_cons (e_def D_g_draw (rn.mono (by decide)) tk (by rfl) (r_io 0 (r_dat (e_op op_addB b2_addB (ev 1) (e_int)) (r_nil)))) (es_nil))) (g_name (i := 3) sc_r_string.nd) (ss_cons (s_set (i := 4) sc_r_string.nd (e_def D_l_escaped (rn.mono (by decide)) tk (by rfl) (r_dat (ev 2) (r_dat (e_int) (r_nil)))))
      (ss_one (s_if (tw (tw_and (t_cmp (op_eqS rn.hr.units) b2_eq (e_def D_g_draw (rn.mono (by decide)) tk (by rfl) (r_io 0 (r_dat (e_int) (r_nil)))) (e_int) (nomark _)) (tw_and1 (t_cmpV op_ltA b2_ord (v_callB call_len bn_len (by rfl) B.len_ (by decide +kernel) (vs_cons (vv 4) (vs_nil))) (vv 1) (nomark _))))) (ss_one (s_set (i := 2) sc_r_string.nd (ev 4))) (ss_one (s_if (t_cmpV op_ltA b2_ord (v_callB call_len bn_len (by rfl) B.len_ (by decide +kernel) (vs_cons (vv 2) (vs_nil))) (vv 1) (nomark _)) (ss_one (s_set (i := 2) sc_r_string.nd (e_op op_addB b2_addB (ev 2) (e_ix ix_seq b2_ix (e_frz (o_lst (es_cons (e_str) (es_cons (e_str) (es_cons (e_str) (es_cons (e_str) (es_cons (e_def D_l_plain (rn.mono (by decide)) tk (by rfl) (r_io 0 (r_nil))) (es_nil)))))))) (e_def D_g_draw (rn.mono (by decide)) tk (by rfl) (r_io 0 (r_dat (e_int) (r_nil)))) (fun _ _ => rfl))))) (ss_nil)))))))
      (ss_one (s_ret (ev 2))))) p_r_string
abbrev s_a_all : Stmt := topS 49
theorem sc_a_all : FnScope ["_law_string_here", "_law_escapes", "_law_rows", "_law_found", "_law_some", "_law_at", "_law_bound", "_law_symbol", "_law_level", "_law_form"] ["_law_string_here", "_law_escapes"] (defScope s_a_all) := ⟨rfl, rfl, rfl, by decide +kernel, rfl, by decide +kernel, by decide +kernel⟩
theorem w_a_all {f : Addr} {fd : FuncData} (B : Bi mg) (hsys : ∃ o es ep, base.get? sysModules = some o ∧ o.data = .dict es ep) (F : FunD K "_law_all" "_law_all" (defArgs s_a_all) (defBody s_a_all) (defScope s_a_all) [] [] f fd) (D_l_escaped : DefC P w K mg base 1 "_law_escaped" ["_law_string_here", "_law_times"] [] c_l_escaped) : FnG P w K mg base 2 f fd ["_law_string_here", "_law_escapes"] (spV K 2 c_a_all) :=
  ok_sat (t := b_a_all) F sc_a_all hsys (fun cdv A ou s H E rn po tk => ss_cons (s_parM2 (i := 2) (j := 3) rfl sc_a_all.nd (m_own (o_lst (es_cons (e_tup (es_cons (e_frz (o_lst (es_nil))) (es_cons (e_int) (es_cons (ev 1) (es_nil))))) (es_nil))) (m_own (o_lst (es_nil)) (m_nil))))
      (ss_cons (s_while po (t_cmpV (op_neS rn.hr.units) b2_ne (vv 2) (v_lst (vs_nil)) (nomark _)) (ss_cons (s_asg (e_pop (i := 2) (hp := pe_bm0 PySem.F.plainAttrs_list PySem.F.slot_list_pop PySem.F.type_list_pop mt_pop (pv 2))) (g_tup rfl (gs_cons (g_name (i := 4) sc_a_all.nd) (gs_cons (g_name (i := 5) sc_a_all.nd) (gs_cons (g_name (i := 6) sc_a_all.nd) (gs_nil) (hm := gm_name)) (hm := gm_name)) (hm := gm_name))))
      (ss_cons (s_if (t_cmpV (op_eqS rn.hr.units) b2_eq (vv 5) (v_callB call_len bn_len (by rfl) B.len_ (by decide +kernel) (vs_cons (vv 0) (vs_nil))) (nomark _)) (ss_one (s_app (i := 3) (ev 4) (hp := fun _ h => pe_bm PySem.F.plainAttrs_list PySem.F.slot_list_append PySem.F.type_list_append mt_append (pv 3) (pa_cons h pa_nil)))) (ss_nil))
      (ss_one (s_for po rfl (i_any (e_if (t_cmpV op_ltA b2_ord (vv 5) (v_callB call_len bn_len (by rfl) B.len_ (by decide +kernel) (vs_cons (vv 0) (vs_nil))) (nomark _)) (e_srtX rfl (by rfl) B.sorted_ (by rfl) B.set_ (ev 0)) (e_frz (o_lst (es_nil))))) (g_name (i := 7) sc_a_all.nd) (ss_one (s_for po rfl (i_range1 (by rfl) B.range_ (es_cons (e_op op_addB b2_addB (ev 6) (e_int)) (es_nil))) (g_name (i := 8) sc_a_all.nd) (ss_cons (s_set (i := 9) sc_a_all.nd (e_def D_l_escaped (rn.mono (by decide)) tk (by rfl) (r_dat (ev 7) (r_dat (ev 8) (r_nil)))))
      (ss_one (s_if (t_cmp (op_eqS rn.hr.units) b2_eq (e_slice (ev 0) (px_some (ev 5)) (px_some (e_op op_addB b2_addB (ev 5) (e_callB call_len bn_len (by rfl) B.len_ (by decide +kernel) (es_cons (ev 9) (es_nil)))))) (ev 9) (nomark _)) (ss_one (s_app (i := 2) (e_tup (es_cons (e_op op_addB b2_addB (ev 4) (e_frz (o_lst (es_cons (e_tup (es_cons (ev 7) (es_cons (ev 8) (es_nil)))) (es_nil))))) (es_cons (e_op op_addB b2_addB (ev 5) (e_callB call_len bn_len (by rfl) B.len_ (by decide +kernel) (es_cons (ev 9) (es_nil)))) (es_cons (ev 8) (es_nil))))) (hp := fun _ h => pe_bm PySem.F.plainAttrs_list PySem.F.slot_list_append PySem.F.type_list_append mt_append (pv 2) (pa_cons h pa_nil)))) (ss_nil)))))))))))
      (ss_one (s_retV (i := 3))))) p_a_all
abbrev s_a_blocks : Stmt := topS 50
theorem sc_a_blocks : FnScope ["_law_some", "_law_found", "_law_symbol", "_law_level"] ["_law_some"] (defScope s_a_blocks) := ⟨rfl, rfl, rfl, by decide +kernel, rfl, by decide +kernel, by decide +kernel⟩
theorem w_a_blocks {f : Addr} {fd : FuncData} (B : Bi mg) (hsys : ∃ o es ep, base.get? sysModules = some o ∧ o.data = .dict es ep) (F : FunD K "_law_blocks" "_law_blocks" (defArgs s_a_blocks) (defBody s_a_blocks) (defScope s_a_blocks) [] [] f fd) : FnG P w K mg base 1 f fd ["_law_some"] (spV K 1 c_a_blocks) :=
  ok_sat (t := b_a_blocks) F sc_a_blocks hsys (fun cdv A ou s H E rn po tk => ss_cons (s_setO (i := 1) sc_a_blocks.nd (o_lst (es_nil)))
      (ss_cons (s_for po rfl (i_any (ev 0)) (g_tup rfl (gs_cons (g_name (i := 2) sc_a_blocks.nd) (gs_cons (g_name (i := 3) sc_a_blocks.nd) (gs_nil) (hm := gm_name)) (hm := gm_name))) (ss_one (s_if (tw (tw_and (t_cmpV (op_neS rn.hr.units) b2_ne (vv 1) (v_lst (vs_nil)) (nomark _)) (tw_and1 (t_cmp (op_eqS rn.hr.units) b2_eq (e_slice (e_ownIx 1 (e_un un_neg b1_neg (e_int)) (fun _ _ => rfl)) (px_no) (px_some (e_int))) (e_tup (es_cons (ev 2) (es_cons (ev 3) (es_nil)))) (nomark _))))) (ss_one (s_put (i := 1) (e_tup (es_cons (ev 2) (es_cons (ev 3) (es_cons (e_op op_addB b2_addB (e_ix ix_seq b2_ix (e_ownIx 1 (e_un un_neg b1_neg (e_int)) (fun _ _ => rfl)) (e_int) (fun _ _ => rfl)) (e_int)) (es_nil))))) (e_un un_neg b1_neg (e_int)))) (ss_one (s_app (i := 1) (e_tup (es_cons (ev 2) (es_cons (ev 3) (es_cons (e_int) (es_nil))))) (hp := fun _ h => pe_bm PySem.F.plainAttrs_list PySem.F.slot_list_append PySem.F.type_list_append mt_append (pv 1) (pa_cons h pa_nil)))))))
      (ss_one (s_retV (i := 1))))) p_a_blocks
abbrev s_m_profile : Stmt := topS 51
theorem sc_m_profile : FnScope ["_law_some", "_law_found", "_law_symbol", "_law_level"] ["_law_some"] (defScope s_m_profile) := ⟨rfl, rfl, rfl, by decide +kernel, rfl, by decide +kernel, by decide +kernel⟩
theorem w_m_profile {f : Addr} {fd : FuncData} (B : Bi mg) (hsys : ∃ o es ep, base.get? sysModules = some o ∧ o.data = .dict es ep) (F : FunD K "_law_profile" "_law_profile" (defArgs s_m_profile) (defBody s_m_profile) (defScope s_m_profile) [] [] f fd) (D_l_escaped : DefC P w K mg base 1 "_law_escaped" ["_law_string_here", "_law_times"] [] c_l_escaped) : FnG P w K mg base 2 f fd ["_law_some"] (spV K 1 c_m_profile) :=
  ok_sat (t := b_m_profile) F sc_m_profile hsys (fun cdv A ou s H E rn po tk => ss_cons (s_set (i := 1) sc_m_profile.nd (e_frz (o_lst (es_nil))))
      (ss_cons (s_for po rfl (i_any (ev 0)) (g_tup rfl (gs_cons (g_name (i := 2) sc_m_profile.nd) (gs_cons (g_name (i := 3) sc_m_profile.nd) (gs_nil) (hm := gm_name)) (hm := gm_name))) (ss_one (s_set (i := 1) sc_m_profile.nd (e_op op_addB b2_addB (ev 1) (e_frz (o_rep (o_lst (es_cons (ev 3) (es_nil))) (e_callB call_len bn_len (by rfl) B.len_ (by decide +kernel) (es_cons (e_def D_l_escaped (rn.mono (by decide)) tk (by rfl) (r_dat (ev 2) (r_dat (ev 3) (r_nil)))) (es_nil)))))))))
      (ss_one (s_ret (ev 1))))) p_m_profile
abbrev s_o_dressed : Stmt := topS 52
theorem sc_o_dressed : FnScope ["_law_bag_here", "_law_blocks_here", "_law_one"] ["_law_bag_here", "_law_blocks_here"] (defScope s_o_dressed) := ⟨rfl, rfl, rfl, by decide +kernel, rfl, by decide +kernel, by decide +kernel⟩
theorem w_o_dressed {f : Addr} {fd : FuncData} (B : Bi mg) (hsys : ∃ o es ep, base.get? sysModules = some o ∧ o.data = .dict es ep) (F : FunD K "_law_dressed" "_law_dressed" (defArgs s_o_dressed) (defBody s_o_dressed) (defScope s_o_dressed) [] [] f fd) (D_l_either : DefC P w K mg base 3 "_law_either" ["_law_bag_here", "_law_items"] [] c_l_either) : FnG P w K mg base 4 f fd ["_law_bag_here", "_law_blocks_here"] (spV K 2 c_o_dressed) :=
  ok_sat (t := b_o_dressed) F sc_o_dressed hsys (fun cdv A ou s H E rn po tk => ss_one (s_ret (e_def D_l_either (rn.mono (by decide)) tk (by rfl) (r_io 0 (r_dat (e_frz (o_lc (own := [("_law_one", 2)]) rfl sc_o_dressed.nd (i_any (ev 1)) (blkOk_by (show blkC ["_law_bag_here", "_law_blocks_here", "_law_one"] (defScope s_o_dressed) _ _ = true by decide +kernel)) (fun _ _ _ _ _ => si_name (i := 2) sc_o_dressed.nd) (fun _ _ _ _ _ => tx_nil) (fun _ _ _ _ _ => e_def D_l_either (rn.blk.mono (by decide)) tk0 (by rfl) (r_io 0 (r_dat (ev 2) (r_nil)))))) (r_nil)))))) p_o_dressed
abbrev s_w_low : Stmt := topS 53
theorem sc_w_low : FnScope ["_law_blocks_here", "_law_number"] ["_law_blocks_here", "_law_number"] (defScope s_w_low) := ⟨rfl, rfl, rfl, by decide +kernel, rfl, by decide +kernel, by decide +kernel⟩
theorem w_w_low {f : Addr} {fd : FuncData} (B : Bi mg) (hsys : ∃ o es ep, base.get? sysModules = some o ∧ o.data = .dict es ep) (F : FunD K "_law_low" "_law_low" (defArgs s_w_low) (defBody s_w_low) (defScope s_w_low) [] [] f fd) (D_lowered : DefC P w K mg base 8 "lowered" ["history", "number"] [] c_lowered) (HN_NoMove : HndC K mg "NoMove" cl_NoMove) : FnG P w K mg base 9 f fd ["_law_blocks_here", "_law_number"] (spV K 2 c_w_low) :=
  ok_sat (t := b_w_low) F sc_w_low hsys (fun cdv A ou s H E rn po tk => ss_one (s_try0 HN_NoMove tk (by rfl) (fun W' pn' xe' tk' po' => ss_one (s_ret (e_def D_lowered (rn.tr.mono (by decide)) tk' (by rfl) (r_dat (ev 0) (r_dat (ev 1) (r_nil)))))) (fun a' pn' => ss_one (s_ret (e_str))))) p_w_low
abbrev s_w_high : Stmt := topS 54
theorem sc_w_high : FnScope ["_law_blocks_here", "_law_number"] ["_law_blocks_here", "_law_number"] (defScope s_w_high) := ⟨rfl, rfl, rfl, by decide +kernel, rfl, by decide +kernel, by decide +kernel⟩
theorem w_w_high {f : Addr} {fd : FuncData} (B : Bi mg) (hsys : ∃ o es ep, base.get? sysModules = some o ∧ o.data = .dict es ep) (F : FunD K "_law_high" "_law_high" (defArgs s_w_high) (defBody s_w_high) (defScope s_w_high) [] [] f fd) (D_raised : DefC P w K mg base 8 "raised" ["history", "number"] [] c_raised) (HN_NoMove : HndC K mg "NoMove" cl_NoMove) : FnG P w K mg base 9 f fd ["_law_blocks_here", "_law_number"] (spV K 2 c_w_high) :=
  ok_sat (t := b_w_high) F sc_w_high hsys (fun cdv A ou s H E rn po tk => ss_one (s_try0 HN_NoMove tk (by rfl) (fun W' pn' xe' tk' po' => ss_one (s_ret (e_def D_raised (rn.tr.mono (by decide)) tk' (by rfl) (r_dat (ev 0) (r_dat (ev 1) (r_nil)))))) (fun a' pn' => ss_one (s_ret (e_str))))) p_w_high
abbrev s_w_due : Stmt := topS 55
theorem sc_w_due : FnScope ["_law_some", "_law_rows", "_law_one", "_law_number", "_law_start", "_law_symbol", "_law_level", "_law_due_here", "_law_at"] ["_law_some", "_law_rows", "_law_one", "_law_number"] (defScope s_w_due) := ⟨rfl, rfl, rfl, by decide +kernel, rfl, by decide +kernel, by decide +kernel⟩
theorem w_w_due {f : Addr} {fd : FuncData} (B : Bi mg) (hsys : ∃ o es ep, base.get? sysModules = some o ∧ o.data = .dict es ep) (F : FunD K "_law_due" "_law_due" (defArgs s_w_due) (defBody s_w_due) (defScope s_w_due) [] [] f fd) (D_a_blocks : DefC P w K mg base 1 "_law_blocks" ["_law_some"] [] c_a_blocks) (D_l_escaped : DefC P w K mg base 1 "_law_escaped" ["_law_string_here", "_law_times"] [] c_l_escaped) : FnG P w K mg base 2 f fd ["_law_some", "_law_rows", "_law_one", "_law_number"] (spV K 4 c_w_due) :=
  ok_sat (t := b_w_due) F sc_w_due hsys (fun cdv A ou s H E rn po tk => ss_cons (s_set (i := 4) sc_w_due.nd (e_callB (cr_sum rfl) bn_sum (by rfl) B.sum_ (by decide +kernel) (es_cons (e_frz (o_lc (own := [("_law_symbol", 5), ("_law_level", 6)]) rfl sc_w_due.nd (i_any (e_slice (e_ix ix_seq b2_ix (ev 0) (ev 2) (fun _ _ => rfl)) (px_no) (px_some (ev 3)))) (blkOk_by (show blkC ["_law_some", "_law_rows", "_law_one", "_law_number", "_law_start", "_law_symbol", "_law_level", "_law_due_here", "_law_at"] (defScope s_w_due) _ _ = true by decide +kernel)) (fun _ _ _ _ _ => si_tup rfl (sis_cons (si_name (i := 5) sc_w_due.nd) (sis_cons (si_name (i := 6) sc_w_due.nd) (sis_nil) (hm := gm_name)) (hm := gm_name))) (fun _ _ _ _ _ => tx_nil) (fun _ _ _ _ _ => e_callB call_len bn_len (by rfl) B.len_ (by decide +kernel) (es_cons (e_def D_l_escaped (rn.blk.mono (by decide)) tk0 (by rfl) (r_dat (ev 5) (r_dat (ev 6) (r_nil)))) (es_nil))))) (es_nil))))
      (ss_cons (s_asg (e_ix ix_seq b2_ix (e_ix ix_seq b2_ix (ev 0) (ev 2) (fun _ _ => rfl)) (ev 3) (fun _ _ => rfl)) (g_tup rfl (gs_cons (g_name (i := 5) sc_w_due.nd) (gs_cons (g_name (i := 6) sc_w_due.nd) (gs_nil) (hm := gm_name)) (hm := gm_name))))
      (ss_cons (s_setO (i := 7) sc_w_due.nd (o_listA rfl (by rfl) B.list_ (es_cons (e_ix ix_seq b2_ix (ev 1) (ev 2) (fun _ _ => rfl)) (es_nil))))
      (ss_cons (s_for po rfl (i_range2 (by rfl) B.range_ (es_cons (ev 4) (es_cons (e_op op_addB b2_addB (ev 4) (e_callB call_len bn_len (by rfl) B.len_ (by decide +kernel) (es_cons (e_def D_l_escaped (rn.mono (by decide)) tk (by rfl) (r_dat (ev 5) (r_dat (ev 6) (r_nil)))) (es_nil)))) (es_nil)))) (g_name (i := 8) sc_w_due.nd) (ss_one (s_put (i := 7) (e_op op_sub b2_sub (e_ownIx 7 (ev 8) (fun _ _ => rfl)) (e_int)) (ev 8))))
      (ss_one (s_ret (e_if (t_cmpV (op_inD (units65 rn.hr)) b2_inD (vv 7) (vv 1) (by rfl)) (e_def D_a_blocks (rn.mono (by decide)) tk (by rfl) (r_dat (e_ix ix_seq b2_ix (ev 0) (e_lix (units65 rn.hr) (ev 1) (ev 7) (hp := fun _ _ h1 h2 => pe_bm PySem.F.plainAttrs_list PySem.F.slot_list_index PySem.F.type_list_index (mt_indexD (units65 rn.hr)) h1 (pa_cons h2 pa_nil))) (fun _ _ => rfl)) (r_nil))) (e_str)))))))) p_w_due
abbrev s_w_right : Stmt := topS 56
theorem sc_w_right : FnScope ["_law_bag_here", "_law_string_here", "_law_escapes", "_law_some", "_law_rows", "_law_one", "_law_lower", "_law_number", "_law_at", "_law_passed", "_law_kept", "_law_own", "_law_found", "_law_higher", "_law_other", "_law_due_here"] ["_law_bag_here", "_law_string_here", "_law_escapes"] (defScope s_w_right) := ⟨rfl, rfl, rfl, by decide +kernel, rfl, by decide +kernel, by decide +kernel⟩
theorem w_w_right {f : Addr} {fd : FuncData} (B : Bi mg) (hsys : ∃ o es ep, base.get? sysModules = some o ∧ o.data = .dict es ep) (F : FunD K "_law_right" "_law_right" (defArgs s_w_right) (defBody s_w_right) (defScope s_w_right) [] [] f fd) (D_a_all : DefC P w K mg base 2 "_law_all" ["_law_string_here", "_law_escapes"] [] c_a_all) (D_m_profile : DefC P w K mg base 2 "_law_profile" ["_law_some"] [] c_m_profile) (D_l_shuffled : DefC P w K mg base 3 "_law_shuffled" ["_law_bag_here", "_law_items"] [] c_l_shuffled) (D_o_dressed : DefC P w K mg base 4 "_law_dressed" ["_law_bag_here", "_law_blocks_here"] [] c_o_dressed) (D_a_blocks : DefC P w K mg base 1 "_law_blocks" ["_law_some"] [] c_a_blocks) (D_w_due : DefC P w K mg base 2 "_law_due" ["_law_some", "_law_rows", "_law_one", "_law_number"] [] c_w_due) (D_w_low : DefC P w K mg base 9 "_law_low" ["_law_blocks_here", "_law_number"] [] c_w_low) (D_w_high : DefC P w K mg base 9 "_law_high" ["_law_blocks_here", "_law_number"] [] c_w_high) : FnG P w K mg base 10 f fd ["_law_bag_here", "_law_string_here", "_law_escapes"] (spV K 3 c_w_right) :=
  ok_sat (t := b_w_right) F sc_w_right hsys (fun cdv A ou s H E rn po tk => ss_cons (s_set (i := 3) sc_w_right.nd (e_def D_a_all (rn.mono (by decide)) tk (by rfl) (r_dat (ev 1) (r_dat (e_op op_addB b2_addB (ev 2) (e_int)) (r_nil)))))
      (ss_cons (by first | exact s_setLcD (i := 4) (own := [("_law_one", 5)]) rfl sc_w_right.nd (i_any (ev 3)) (blkOk_by (show blkC ["_law_bag_here", "_law_string_here", "_law_escapes", "_law_some", "_law_rows", "_law_one", "_law_lower", "_law_number", "_law_at", "_law_passed", "_law_kept", "_law_own", "_law_found", "_law_higher", "_law_other", "_law_due_here"] (defScope s_w_right) _ _ = true by decide +kernel)) (fun _ _ _ _ _ => si_name (i := 5) sc_w_right.nd) (fun _ _ _ _ _ => tx_nil) (fun _ _ _ _ _ => e_def D_m_profile (rn.blk.mono (by decide)) tk0 (by rfl) (r_dat (ev 5) (r_nil))) | exact s_set (i := 4) sc_w_right.nd (e_frz (o_lc (own := [("_law_one", 5)]) rfl sc_w_right.nd (i_any (ev 3)) (blkOk_by (show blkC ["_law_bag_here", "_law_string_here", "_law_escapes", "_law_some", "_law_rows", "_law_one", "_law_lower", "_law_number", "_law_at", "_law_passed", "_law_kept", "_law_own", "_law_found", "_law_higher", "_law_other", "_law_due_here"] (defScope s_w_right) _ _ = true by decide +kernel)) (fun _ _ _ _ _ => si_name (i := 5) sc_w_right.nd) (fun _ _ _ _ _ => tx_nil) (fun _ _ _ _ _ => e_def D_m_profile (rn.blk.mono (by decide)) tk0 (by rfl) (r_dat (ev 5) (r_nil))))))
      (ss_cons (by first | exact s_setLcD (i := 6) (own := [("_law_one", 5)]) rfl sc_w_right.nd (i_range1 (by rfl) B.range_ (es_cons (e_callB call_len bn_len (by rfl) B.len_ (by decide +kernel) (es_cons (ev 3) (es_nil))) (es_nil))) (blkOk_by (show blkC ["_law_bag_here", "_law_string_here", "_law_escapes", "_law_some", "_law_rows", "_law_one", "_law_lower", "_law_number", "_law_at", "_law_passed", "_law_kept", "_law_own", "_law_found", "_law_higher", "_law_other", "_law_due_here"] (defScope s_w_right) _ _ = true by decide +kernel)) (fun _ _ _ _ _ => si_name (i := 5) sc_w_right.nd) (fun _ _ _ _ _ => tx_nil) (fun _ _ _ _ _ => e_frz (o_lc (own := [("_law_number", 7)]) rfl sc_w_right.nd (i_range1 (by rfl) B.range_ (es_cons (e_callB call_len bn_len (by rfl) B.len_ (by decide +kernel) (es_cons (e_ix ix_seq b2_ix (ev 3) (ev 5) (fun _ _ => rfl)) (es_nil))) (es_nil))) (blkOk_by (by rw [blk_sc]; show blkC ["_law_bag_here", "_law_string_here", "_law_escapes", "_law_some", "_law_rows", "_law_one", "_law_lower", "_law_number", "_law_at", "_law_passed", "_law_kept", "_law_own", "_law_found", "_law_higher", "_law_other", "_law_due_here"] (relS _ (defScope s_w_right)) _ _ = true; decide +kernel)) (fun _ _ _ _ _ => si_name (i := 7) sc_w_right.nd) (fun _ _ _ _ _ => tx_nil) (fun _ _ _ _ _ => e_callB (call_repr rn.blk.blk) bn_repr (by rfl) B.repr_ (by decide +kernel) (es_cons (e_def D_w_due (rn.blk.blk.mono (by decide)) tk0 (by rfl) (r_dat (ev 3) (r_dat (ev 4) (r_dat (ev 5) (r_dat (ev 7) (r_nil)))))) (es_nil))))) | exact s_set (i := 6) sc_w_right.nd (e_frz (o_lc (own := [("_law_one", 5)]) rfl sc_w_right.nd (i_range1 (by rfl) B.range_ (es_cons (e_callB call_len bn_len (by rfl) B.len_ (by decide +kernel) (es_cons (ev 3) (es_nil))) (es_nil))) (blkOk_by (show blkC ["_law_bag_here", "_law_string_here", "_law_escapes", "_law_some", "_law_rows", "_law_one", "_law_lower", "_law_number", "_law_at", "_law_passed", "_law_kept", "_law_own", "_law_found", "_law_higher", "_law_other", "_law_due_here"] (defScope s_w_right) _ _ = true by decide +kernel)) (fun _ _ _ _ _ => si_name (i := 5) sc_w_right.nd) (fun _ _ _ _ _ => tx_nil) (fun _ _ _ _ _ => e_frz (o_lc (own := [("_law_number", 7)]) rfl sc_w_right.nd (i_range1 (by rfl) B.range_ (es_cons (e_callB call_len bn_len (by rfl) B.len_ (by decide +kernel) (es_cons (e_ix ix_seq b2_ix (ev 3) (ev 5) (fun _ _ => rfl)) (es_nil))) (es_nil))) (blkOk_by (by rw [blk_sc]; show blkC ["_law_bag_here", "_law_string_here", "_law_escapes", "_law_some", "_law_rows", "_law_one", "_law_lower", "_law_number", "_law_at", "_law_passed", "_law_kept", "_law_own", "_law_found", "_law_higher", "_law_other", "_law_due_here"] (relS _ (defScope s_w_right)) _ _ = true; decide +kernel)) (fun _ _ _ _ _ => si_name (i := 7) sc_w_right.nd) (fun _ _ _ _ _ => tx_nil) (fun _ _ _ _ _ => e_callB (call_repr rn.blk.blk) bn_repr (by rfl) B.repr_ (by decide +kernel) (es_cons (e_def D_w_due (rn.blk.blk.mono (by decide)) tk0 (by rfl) (r_dat (ev 3) (r_dat (ev 4) (r_dat (ev 5) (r_dat (ev 7) (r_nil)))))) (es_nil))))))))
      (ss_cons (s_for po rfl (i_any (e_slice (e_def D_l_shuffled (rn.mono (by decide)) tk (by rfl) (r_io 0 (r_dat (e_frz (o_lc (own := [("_law_at", 8)]) rfl sc_w_right.nd (i_range1 (by rfl) B.range_ (es_cons (e_callB call_len bn_len (by rfl) B.len_ (by decide +kernel) (es_cons (ev 3) (es_nil))) (es_nil))) (blkOk_by (show blkC ["_law_bag_here", "_law_string_here", "_law_escapes", "_law_some", "_law_rows", "_law_one", "_law_lower", "_law_number", "_law_at", "_law_passed", "_law_kept", "_law_own", "_law_found", "_law_higher", "_law_other", "_law_due_here"] (defScope s_w_right) _ _ = true by decide +kernel)) (fun _ _ _ _ _ => si_name (i := 8) sc_w_right.nd) (fun _ _ _ _ _ => tx_one (t_cmp (op_leLi (units65 rn.blk.hr)) b2_leLi (e_slice (e_ix ix_seq b2_ix (ev 4) (ev 8) (fun _ _ => rfl)) (px_no) (px_some (e_int))) (e_frz (o_lst (es_cons (ev 2) (es_nil)))) (nomark _))) (fun _ _ _ _ _ => ev 8))) (r_nil)))) (px_no) (px_some (e_int)))) (g_name (i := 5) sc_w_right.nd) (ss_cons (s_set (i := 9) sc_w_right.nd (e_def D_o_dressed (rn.mono (by decide)) tk (by rfl) (r_io 0 (r_dat (e_def D_a_blocks (rn.mono (by decide)) tk (by rfl) (r_dat (e_ix ix_seq b2_ix (ev 3) (ev 5) (fun _ _ => rfl)) (r_nil))) (r_nil)))))
      (ss_cons (s_asg (e_tup (es_cons (e_callB (call_repr rn) bn_repr (by rfl) B.repr_ (by decide +kernel) (es_cons (ev 9) (es_nil))) (es_cons (e_callB (call_repr rn) bn_repr (by rfl) B.repr_ (by decide +kernel) (es_cons (e_def D_a_blocks (rn.mono (by decide)) tk (by rfl) (r_dat (e_ix ix_seq b2_ix (ev 3) (ev 5) (fun _ _ => rfl)) (r_nil))) (es_nil))) (es_nil)))) (g_tup rfl (gs_cons (g_name (i := 10) sc_w_right.nd) (gs_cons (g_name (i := 11) sc_w_right.nd) (gs_nil) (hm := gm_name)) (hm := gm_name))))
      (ss_one (s_for po rfl (i_range1 (by rfl) B.range_ (es_cons (e_callB call_len bn_len (by rfl) B.len_ (by decide +kernel) (es_cons (e_ix ix_seq b2_ix (ev 3) (ev 5) (fun _ _ => rfl)) (es_nil))) (es_nil))) (g_name (i := 7) sc_w_right.nd) (ss_cons (s_set (i := 12) sc_w_right.nd (e_frz (o_lst (es_cons (e_def D_w_low (rn.mono (by decide)) tk (by rfl) (r_dat (ev 9) (r_dat (ev 7) (r_nil)))) (es_cons (e_def D_w_high (rn.mono (by decide)) tk (by rfl) (r_dat (ev 9) (r_dat (ev 7) (r_nil)))) (es_nil))))))
      (ss_cons (by first | exact s_setLcD (i := 13) (own := [("_law_other", 14)]) rfl sc_w_right.nd (i_range1 (by rfl) B.range_ (es_cons (e_callB call_len bn_len (by rfl) B.len_ (by decide +kernel) (es_cons (ev 3) (es_nil))) (es_nil))) (blkOk_by (show blkC ["_law_bag_here", "_law_string_here", "_law_escapes", "_law_some", "_law_rows", "_law_one", "_law_lower", "_law_number", "_law_at", "_law_passed", "_law_kept", "_law_own", "_law_found", "_law_higher", "_law_other", "_law_due_here"] (defScope s_w_right) _ _ = true by decide +kernel)) (fun _ _ _ _ _ => si_name (i := 14) sc_w_right.nd) (fun _ _ _ _ _ => tx_one (t_cmp (op_eqS rn.blk.hr.units) b2_eq (e_slice (e_ix ix_seq b2_ix (ev 6) (ev 14) (fun _ _ => rfl)) (px_some (ev 7)) (px_some (e_op op_addB b2_addB (ev 7) (e_int)))) (e_frz (o_lst (es_cons (ev 11) (es_nil)))) (nomark _))) (fun _ _ _ _ _ => ev 14) | exact s_set (i := 13) sc_w_right.nd (e_frz (o_lc (own := [("_law_other", 14)]) rfl sc_w_right.nd (i_range1 (by rfl) B.range_ (es_cons (e_callB call_len bn_len (by rfl) B.len_ (by decide +kernel) (es_cons (ev 3) (es_nil))) (es_nil))) (blkOk_by (show blkC ["_law_bag_here", "_law_string_here", "_law_escapes", "_law_some", "_law_rows", "_law_one", "_law_lower", "_law_number", "_law_at", "_law_passed", "_law_kept", "_law_own", "_law_found", "_law_higher", "_law_other", "_law_due_here"] (defScope s_w_right) _ _ = true by decide +kernel)) (fun _ _ _ _ _ => si_name (i := 14) sc_w_right.nd) (fun _ _ _ _ _ => tx_one (t_cmp (op_eqS rn.blk.hr.units) b2_eq (e_slice (e_ix ix_seq b2_ix (ev 6) (ev 14) (fun _ _ => rfl)) (px_some (ev 7)) (px_some (e_op op_addB b2_addB (ev 7) (e_int)))) (e_frz (o_lst (es_cons (ev 11) (es_nil)))) (nomark _))) (fun _ _ _ _ _ => ev 14))))
      (ss_cons (s_set (i := 15) sc_w_right.nd (e_if (t_cmpV (op_neS rn.hr.units) b2_ne (vv 13) (v_lst (vs_nil)) (nomark _)) (e_def D_a_blocks (rn.mono (by decide)) tk (by rfl) (r_dat (e_ix ix_seq b2_ix (ev 3) (e_ix ix_seq b2_ix (ev 13) (e_int) (fun _ _ => rfl)) (fun _ _ => rfl)) (r_nil))) (e_str)))
      (ss_one (s_if (tw (tw_or (t_cmpV (op_neS rn.hr.units) b2_ne (v_callB (call_repr rn) bn_repr (by rfl) B.repr_ (by decide +kernel) (vs_cons (v_ix ix_seq b2_ix (vv 12) (v_int) (fun _ _ => rfl)) (vs_nil))) (v_ix ix_seq b2_ix (v_ix ix_seq b2_ix (vv 6) (vv 5) (fun _ _ => rfl)) (vv 7) (fun _ _ => rfl)) (nomark _)) (tw_or (t_cmpV (op_neS rn.hr.units) b2_ne (v_callB (call_repr rn) bn_repr (by rfl) B.repr_ (by decide +kernel) (vs_cons (v_ix ix_seq b2_ix (vv 12) (v_int) (fun _ _ => rfl)) (vs_nil))) (v_callB (call_repr rn) bn_repr (by rfl) B.repr_ (by decide +kernel) (vs_cons (vv 15) (vs_nil))) (nomark _)) (tw_or1 (t_cmpV (op_neS rn.hr.units) b2_ne (v_callB (call_repr rn) bn_repr (by rfl) B.repr_ (by decide +kernel) (vs_cons (vv 9) (vs_nil))) (vv 10) (nomark _)))))) (ss_one (s_ret (e_bl))) (ss_nil)))))))))))
      (ss_one (s_ret (e_bl))))))) p_w_right
abbrev s_law : Stmt := topS 57
theorem sc_law : FnScope ["_law_script", "_law_bag_here", "_law_turn", "_law_symbol", "_law_held"] ["_law_script"] (defScope s_law) := ⟨rfl, rfl, rfl, by decide +kernel, rfl, by decide +kernel, by decide +kernel⟩
theorem w_law {f : Addr} {fd : FuncData} (B : Bi mg) (hsys : ∃ o es ep, base.get? sysModules = some o ∧ o.data = .dict es ep) (F : FunD K "law" "law" (defArgs s_law) (defBody s_law) (defScope s_law) [] [] f fd) (D_l_bag : DefC P w K mg base 1 "_law_bag" ["_law_script"] [] c_l_bag) (D_l_plains : DefC P w K mg base 1 "_law_plains" [] [] c_l_plains) (D_lowered : DefC P w K mg base 8 "lowered" ["history", "number"] [] c_lowered) (D_raised : DefC P w K mg base 8 "raised" ["history", "number"] [] c_raised) (D_w_right : DefC P w K mg base 10 "_law_right" ["_law_bag_here", "_law_string_here", "_law_escapes"] [] c_w_right) (D_w_high : DefC P w K mg base 9 "_law_high" ["_law_blocks_here", "_law_number"] [] c_w_high) (D_r_string : DefC P w K mg base 4 "_law_string" ["_law_bag_here", "_law_most"] [] c_r_string) (D_g_draw : DefC P w K mg base 2 "_law_draw" ["_law_bag_here", "_law_bound"] [] c_g_draw) : FnG P w K mg base 11 f fd ["_law_script"] (spV K 1 lawC) :=
  ok_sat (t := b_law) F sc_law hsys (fun cdv A ou s H E rn po tk => ss_cons (s_setO (i := 1) sc_law.nd (o_def D_l_bag (rn.mono (by decide)) tk (by rfl) (r_dat (ev 0) (r_nil))))
      (ss_cons (s_for po rfl (i_range1 (by rfl) B.range_ (es_cons (e_op op_addB b2_addB (e_int) (e_callB (call_min2 rfl) bn_min (by rfl) B.min_ (by decide +kernel) (es_cons (e_int) (es_cons (e_callB call_len bn_len (by rfl) B.len_ (by decide +kernel) (es_cons (ev 0) (es_nil))) (es_nil))))) (es_nil))) (g_name (i := 2) sc_law.nd) (ss_one (s_if (t_not (t_tru (e_def D_w_right (rn.mono (by decide)) tk (by rfl) (r_io 1 (r_dat (e_def D_r_string (rn.mono (by decide)) tk (by rfl) (r_io 1 (r_dat (e_int) (r_nil)))) (r_dat (e_def D_g_draw (rn.mono (by decide)) tk (by rfl) (r_io 1 (r_dat (e_int) (r_nil)))) (r_nil))))))) (ss_one (s_ret (e_bl))) (ss_nil))))
      (ss_cons (s_for po rfl (i_any (e_op op_addB b2_addB (e_def0 D_l_plains (rn.mono (by decide)) tk (by rfl)) (e_str))) (g_name (i := 3) sc_law.nd) (ss_cons (s_if (t_cmpV (op_neS rn.hr.units) b2_ne (v_def D_lowered (rn.mono (by decide)) tk0 (by rfl) (vr_cons (v_lst (vs_cons (v_tup (vs_cons (vv 3) (vs_cons (v_int) (vs_cons (v_int) (vs_nil))))) (vs_nil))) (vr_cons (v_int) (vr_nil)))) (v_lst (vs_cons (v_tup (vs_cons (vv 3) (vs_cons (v_int) (vs_cons (v_int) (vs_nil))))) (vs_nil))) (nomark _)) (ss_one (s_ret (e_bl))) (ss_nil))
      (ss_one (s_if (t_cmpV (op_neS rn.hr.units) b2_ne (v_def D_raised (rn.mono (by decide)) tk0 (by rfl) (vr_cons (v_lst (vs_cons (v_tup (vs_cons (vv 3) (vs_cons (v_int) (vs_cons (v_int) (vs_nil))))) (vs_nil))) (vr_cons (v_int) (vr_nil)))) (v_lst (vs_cons (v_tup (vs_cons (vv 3) (vs_cons (v_int) (vs_cons (v_int) (vs_nil))))) (vs_cons (v_tup (vs_cons (vv 3) (vs_cons (v_int) (vs_cons (v_int) (vs_nil))))) (vs_nil)))) (nomark _)) (ss_one (s_ret (e_bl))) (ss_nil)))))
      (ss_cons (s_setL2 (i := 4) sc_law.nd (o_lst (es_cons (e_str) (es_cons (e_int) (es_cons (e_int) (es_nil))))) (o_lst (es_cons (e_str) (es_cons (e_int) (es_cons (e_int) (es_nil))))))
      (ss_cons (s_if (t_cmpV (op_neS rn.hr.units) b2_ne (v_def D_lowered (rn.mono (by decide)) tk0 (by rfl) (vr_cons (vv 4) (vr_cons (v_int) (vr_nil)))) (v_lst (vs_cons (v_tup (vs_cons (v_str) (vs_cons (v_int) (vs_cons (v_int) (vs_nil))))) (vs_cons (v_tup (vs_cons (v_str) (vs_cons (v_int) (vs_cons (v_int) (vs_nil))))) (vs_cons (v_tup (vs_cons (v_str) (vs_cons (v_int) (vs_cons (v_int) (vs_nil))))) (vs_nil))))) (nomark _)) (ss_one (s_ret (e_bl))) (ss_nil))
      (ss_cons (s_putK (i := 4) (e_int) (v_int) (e_int))
      (ss_cons (s_if (t_cmpV (op_neS rn.hr.units) b2_ne (v_def D_raised (rn.mono (by decide)) tk0 (by rfl) (vr_cons (vv 4) (vr_cons (v_int) (vr_nil)))) (v_lst (vs_cons (v_tup (vs_cons (v_str) (vs_cons (v_int) (vs_cons (v_int) (vs_nil))))) (vs_cons (v_tup (vs_cons (v_str) (vs_cons (v_int) (vs_cons (v_int) (vs_nil))))) (vs_cons (v_tup (vs_cons (v_str) (vs_cons (v_int) (vs_cons (v_int) (vs_nil))))) (vs_nil))))) (nomark _)) (ss_one (s_ret (e_bl))) (ss_nil))
      (ss_one (s_ret (e_and (e_cmp (op_eqS rn.hr.units) b2_eq (e_def D_w_high (rn.mono (by decide)) tk (by rfl) (r_dat (e_frz (o_lst (es_cons (e_tup (es_cons (e_str) (es_cons (e_int) (es_cons (e_int) (es_nil))))) (es_nil)))) (r_dat (e_int) (r_nil)))) (e_str) (nomark _)) (e_one (e_cmp (op_eqS rn.hr.units) b2_eq (e_def D_w_high (rn.mono (by decide)) tk (by rfl) (r_dat (e_frz (o_lst (es_cons (e_tup (es_cons (e_str) (es_cons (e_int) (es_cons (e_int) (es_nil))))) (es_nil)))) (r_dat (e_int) (r_nil)))) (e_str) (nomark _))))))))))))) p_law
end
section
theorem all_mk {P : Program} {w : World} {K : PySem.W.Frag} {h : Heap} {mg : Str → Option Value} {fa : Addr} (X : K.In h) (G : h.Ns mainGlobals mg) (hfa : mg "law" = some (.ref fa))
    (z_NotEscaped : PySem.W.nsIn K mainGlobals "NotEscaped" = some none)
    (z_TooLong : PySem.W.nsIn K mainGlobals "TooLong" = some none)
    (z_Contradiction : PySem.W.nsIn K mainGlobals "Contradiction" = some none)
    (z_ParseError : PySem.W.nsIn K mainGlobals "ParseError" = some none)
    (z_InvalidText : PySem.W.nsIn K mainGlobals "InvalidText" = some none)
    (z_InvalidSymbols : PySem.W.nsIn K mainGlobals "InvalidSymbols" = some none)
    (z_InvalidPosition : PySem.W.nsIn K mainGlobals "InvalidPosition" = some none)
    (z_InvalidScript : PySem.W.nsIn K mainGlobals "InvalidScript" = some none)
    (z_InvalidFacts : PySem.W.nsIn K mainGlobals "InvalidFacts" = some none)
    (z_NothingToUndo : PySem.W.nsIn K mainGlobals "NothingToUndo" = some none)
    (z_InvalidCommand : PySem.W.nsIn K mainGlobals "InvalidCommand" = some none)
    {C_SlashError : Addr} (aC_SlashError : PySem.W.nsIn K mainGlobals "SlashError" = some (some (.ref C_SlashError))) (xb_SlashError : PySem.W.subIn K (.ref C_SlashError) (.type "BaseException") = some true) (xv_SlashError : PySem.W.subIn K (.ref C_SlashError) (.type "ValueError") = some true) (xs_SlashError : PySem.W.subIn K (.ref C_SlashError) (.ref C_SlashError) = some true) (xt_SlashError : PySem.W.typeIn K (.ref C_SlashError) = some (.type "type")) (xh_SlashError : PySem.W.hasDictIn K C_SlashError = true) (kc_SlashError : PySem.W.keepIn K (.ref C_SlashError) = true)
    (xg_SlashError : PySem.W.findIn K (.ref C_SlashError) "__getattribute__" = some (some (.builtin "BaseException.__getattribute__"))) (xr_SlashError : PySem.W.findIn K (.ref C_SlashError) "__getattr__" = some none) (xc_SlashError : PySem.W.findIn K (.ref C_SlashError) "__class__" = some (some (.builtin "object.__class__"))) (xo_SlashError : PySem.W.mroIn K C_SlashError (.type "object") = some true)
    {C_InvalidNumber : Addr} (aC_InvalidNumber : PySem.W.nsIn K mainGlobals "InvalidNumber" = some (some (.ref C_InvalidNumber))) (xb_InvalidNumber : PySem.W.subIn K (.ref C_InvalidNumber) (.type "BaseException") = some true) (xv_InvalidNumber : PySem.W.subIn K (.ref C_InvalidNumber) (.type "ValueError") = some true) (xs_InvalidNumber : PySem.W.subIn K (.ref C_InvalidNumber) (.ref C_InvalidNumber) = some true) (xt_InvalidNumber : PySem.W.typeIn K (.ref C_InvalidNumber) = some (.type "type")) (xh_InvalidNumber : PySem.W.hasDictIn K C_InvalidNumber = true) (kc_InvalidNumber : PySem.W.keepIn K (.ref C_InvalidNumber) = true)
    (xg_InvalidNumber : PySem.W.findIn K (.ref C_InvalidNumber) "__getattribute__" = some (some (.builtin "BaseException.__getattribute__"))) (xr_InvalidNumber : PySem.W.findIn K (.ref C_InvalidNumber) "__getattr__" = some none) (xc_InvalidNumber : PySem.W.findIn K (.ref C_InvalidNumber) "__class__" = some (some (.builtin "object.__class__"))) (xo_InvalidNumber : PySem.W.mroIn K C_InvalidNumber (.type "object") = some true)
    {C_InvalidHistory : Addr} (aC_InvalidHistory : PySem.W.nsIn K mainGlobals "InvalidHistory" = some (some (.ref C_InvalidHistory))) (xb_InvalidHistory : PySem.W.subIn K (.ref C_InvalidHistory) (.type "BaseException") = some true) (xv_InvalidHistory : PySem.W.subIn K (.ref C_InvalidHistory) (.type "ValueError") = some true) (xs_InvalidHistory : PySem.W.subIn K (.ref C_InvalidHistory) (.ref C_InvalidHistory) = some true) (xt_InvalidHistory : PySem.W.typeIn K (.ref C_InvalidHistory) = some (.type "type")) (xh_InvalidHistory : PySem.W.hasDictIn K C_InvalidHistory = true) (kc_InvalidHistory : PySem.W.keepIn K (.ref C_InvalidHistory) = true)
    (xg_InvalidHistory : PySem.W.findIn K (.ref C_InvalidHistory) "__getattribute__" = some (some (.builtin "BaseException.__getattribute__"))) (xr_InvalidHistory : PySem.W.findIn K (.ref C_InvalidHistory) "__getattr__" = some none) (xc_InvalidHistory : PySem.W.findIn K (.ref C_InvalidHistory) "__class__" = some (some (.builtin "object.__class__"))) (xo_InvalidHistory : PySem.W.mroIn K C_InvalidHistory (.type "object") = some true)
    {C_NoMove : Addr} (aC_NoMove : PySem.W.nsIn K mainGlobals "NoMove" = some (some (.ref C_NoMove))) (xb_NoMove : PySem.W.subIn K (.ref C_NoMove) (.type "BaseException") = some true) (xv_NoMove : PySem.W.subIn K (.ref C_NoMove) (.type "ValueError") = some true) (xs_NoMove : PySem.W.subIn K (.ref C_NoMove) (.ref C_NoMove) = some true) (xt_NoMove : PySem.W.typeIn K (.ref C_NoMove) = some (.type "type")) (xh_NoMove : PySem.W.hasDictIn K C_NoMove = true) (kc_NoMove : PySem.W.keepIn K (.ref C_NoMove) = true)
    (xg_NoMove : PySem.W.findIn K (.ref C_NoMove) "__getattribute__" = some (some (.builtin "BaseException.__getattribute__"))) (xr_NoMove : PySem.W.findIn K (.ref C_NoMove) "__getattr__" = some none) (xc_NoMove : PySem.W.findIn K (.ref C_NoMove) "__class__" = some (some (.builtin "object.__class__"))) (xo_NoMove : PySem.W.mroIn K C_NoMove (.type "object") = some true)
    (x_n : PySem.W.specialIn K (.builtin "object.__class__") "__get__" = some (some (.builtin "getset_descriptor.__get__"))) (x_t : PySem.W.takesIn K (.builtin "object.__class__") = some true)
    (u_SlashError_NoMove : PySem.W.subIn K (.ref C_SlashError) (.ref C_NoMove) = some false)
    (u_InvalidNumber_NoMove : PySem.W.subIn K (.ref C_InvalidNumber) (.ref C_NoMove) = some false)
    (u_InvalidHistory_NoMove : PySem.W.subIn K (.ref C_InvalidHistory) (.ref C_NoMove) = some false)
    (xe_InvalidHistory : PySem.W.excIn K C_InvalidHistory [.type "ValueError", .type "Exception", .type "BaseException", .type "object"] "ValueError.__new__" = true)
    (xe_InvalidNumber : PySem.W.excIn K C_InvalidNumber [.type "ValueError", .type "Exception", .type "BaseException", .type "object"] "ValueError.__new__" = true)
    (xe_NoMove : PySem.W.excIn K C_NoMove [.type "ValueError", .type "Exception", .type "BaseException", .type "object"] "ValueError.__new__" = true)
    {f_is_integer : Addr} {od_is_integer an_is_integer : Option Addr} {sl_is_integer : Array (Option Value)} {oc_is_integer kV_is_integer dc_is_integer pm_is_integer cd_is_integer ct_is_integer : Value} {T_is_integer : Addr} {oT_is_integer : Value} {dT_is_integer : Option Addr} {nT_is_integer : Nat} {slT_is_integer : Array (Option Value)}
    (a_is_integer : PySem.W.nsIn K mainGlobals "is_integer" = some (some (.ref f_is_integer))) (l_is_integer : K.lookup f_is_integer = some ⟨oc_is_integer, od_is_integer, .func (PySem.W.fnOf "is_integer" "is_integer" (defArgs s_is_integer) (defBody s_is_integer) (defScope s_is_integer) (.ref T_is_integer) kV_is_integer dc_is_integer pm_is_integer an_is_integer cd_is_integer ct_is_integer), sl_is_integer⟩) (y_is_integer : PySem.W.codeIn K cd_is_integer "is_integer" = true) (k_is_integer : PySem.W.keepIn K (.ref f_is_integer) = true)
    (t_is_integer : K.lookup T_is_integer = some ⟨oT_is_integer, dT_is_integer, .seq #[.none] nT_is_integer, slT_is_integer⟩)
    {f_is_symbol : Addr} {od_is_symbol an_is_symbol : Option Addr} {sl_is_symbol : Array (Option Value)} {oc_is_symbol kV_is_symbol dc_is_symbol pm_is_symbol cd_is_symbol ct_is_symbol : Value}
    (a_is_symbol : PySem.W.nsIn K mainGlobals "is_symbol" = some (some (.ref f_is_symbol))) (l_is_symbol : K.lookup f_is_symbol = some ⟨oc_is_symbol, od_is_symbol, .func (PySem.W.fnOf "is_symbol" "is_symbol" (defArgs s_is_symbol) (defBody s_is_symbol) (defScope s_is_symbol) .none kV_is_symbol dc_is_symbol pm_is_symbol an_is_symbol cd_is_symbol ct_is_symbol), sl_is_symbol⟩) (y_is_symbol : PySem.W.codeIn K cd_is_symbol "is_symbol" = true) (k_is_symbol : PySem.W.keepIn K (.ref f_is_symbol) = true)
    {f_is_run : Addr} {od_is_run an_is_run : Option Addr} {sl_is_run : Array (Option Value)} {oc_is_run kV_is_run dc_is_run pm_is_run cd_is_run ct_is_run : Value}
    (a_is_run : PySem.W.nsIn K mainGlobals "is_run" = some (some (.ref f_is_run))) (l_is_run : K.lookup f_is_run = some ⟨oc_is_run, od_is_run, .func (PySem.W.fnOf "is_run" "is_run" (defArgs s_is_run) (defBody s_is_run) (defScope s_is_run) .none kV_is_run dc_is_run pm_is_run an_is_run cd_is_run ct_is_run), sl_is_run⟩) (y_is_run : PySem.W.codeIn K cd_is_run "is_run" = true) (k_is_run : PySem.W.keepIn K (.ref f_is_run) = true)
    {f_is_text : Addr} {od_is_text an_is_text : Option Addr} {sl_is_text : Array (Option Value)} {oc_is_text kV_is_text dc_is_text pm_is_text cd_is_text ct_is_text : Value}
    (a_is_text : PySem.W.nsIn K mainGlobals "is_text" = some (some (.ref f_is_text))) (l_is_text : K.lookup f_is_text = some ⟨oc_is_text, od_is_text, .func (PySem.W.fnOf "is_text" "is_text" (defArgs s_is_text) (defBody s_is_text) (defScope s_is_text) .none kV_is_text dc_is_text pm_is_text an_is_text cd_is_text ct_is_text), sl_is_text⟩) (y_is_text : PySem.W.codeIn K cd_is_text "is_text" = true) (k_is_text : PySem.W.keepIn K (.ref f_is_text) = true)
    {f_power_of_two : Addr} {od_power_of_two an_power_of_two : Option Addr} {sl_power_of_two : Array (Option Value)} {oc_power_of_two kV_power_of_two dc_power_of_two pm_power_of_two cd_power_of_two ct_power_of_two : Value}
    (a_power_of_two : PySem.W.nsIn K mainGlobals "power_of_two" = some (some (.ref f_power_of_two))) (l_power_of_two : K.lookup f_power_of_two = some ⟨oc_power_of_two, od_power_of_two, .func (PySem.W.fnOf "power_of_two" "power_of_two" (defArgs s_power_of_two) (defBody s_power_of_two) (defScope s_power_of_two) .none kV_power_of_two dc_power_of_two pm_power_of_two an_power_of_two cd_power_of_two ct_power_of_two), sl_power_of_two⟩) (y_power_of_two : PySem.W.codeIn K cd_power_of_two "power_of_two" = true) (k_power_of_two : PySem.W.keepIn K (.ref f_power_of_two) = true)
    {f_add_block : Addr} {od_add_block an_add_block : Option Addr} {sl_add_block : Array (Option Value)} {oc_add_block kV_add_block dc_add_block pm_add_block cd_add_block ct_add_block : Value}
    (a_add_block : PySem.W.nsIn K mainGlobals "add_block" = some (some (.ref f_add_block))) (l_add_block : K.lookup f_add_block = some ⟨oc_add_block, od_add_block, .func (PySem.W.fnOf "add_block" "add_block" (defArgs s_add_block) (defBody s_add_block) (defScope s_add_block) .none kV_add_block dc_add_block pm_add_block an_add_block cd_add_block ct_add_block), sl_add_block⟩) (y_add_block : PySem.W.codeIn K cd_add_block "add_block" = true) (k_add_block : PySem.W.keepIn K (.ref f_add_block) = true)
    {f_is_block : Addr} {od_is_block an_is_block : Option Addr} {sl_is_block : Array (Option Value)} {oc_is_block kV_is_block dc_is_block pm_is_block cd_is_block ct_is_block : Value}
    (a_is_block : PySem.W.nsIn K mainGlobals "is_block" = some (some (.ref f_is_block))) (l_is_block : K.lookup f_is_block = some ⟨oc_is_block, od_is_block, .func (PySem.W.fnOf "is_block" "is_block" (defArgs s_is_block) (defBody s_is_block) (defScope s_is_block) .none kV_is_block dc_is_block pm_is_block an_is_block cd_is_block ct_is_block), sl_is_block⟩) (y_is_block : PySem.W.codeIn K cd_is_block "is_block" = true) (k_is_block : PySem.W.keepIn K (.ref f_is_block) = true)
    {f_are_blocks : Addr} {od_are_blocks an_are_blocks : Option Addr} {sl_are_blocks : Array (Option Value)} {oc_are_blocks kV_are_blocks dc_are_blocks pm_are_blocks cd_are_blocks ct_are_blocks : Value}
    (a_are_blocks : PySem.W.nsIn K mainGlobals "are_blocks" = some (some (.ref f_are_blocks))) (l_are_blocks : K.lookup f_are_blocks = some ⟨oc_are_blocks, od_are_blocks, .func (PySem.W.fnOf "are_blocks" "are_blocks" (defArgs s_are_blocks) (defBody s_are_blocks) (defScope s_are_blocks) .none kV_are_blocks dc_are_blocks pm_are_blocks an_are_blocks cd_are_blocks ct_are_blocks), sl_are_blocks⟩) (y_are_blocks : PySem.W.codeIn K cd_are_blocks "are_blocks" = true) (k_are_blocks : PySem.W.keepIn K (.ref f_are_blocks) = true)
    {f_checked_blocks : Addr} {od_checked_blocks an_checked_blocks : Option Addr} {sl_checked_blocks : Array (Option Value)} {oc_checked_blocks kV_checked_blocks dc_checked_blocks pm_checked_blocks cd_checked_blocks ct_checked_blocks : Value}
    (a_checked_blocks : PySem.W.nsIn K mainGlobals "checked_blocks" = some (some (.ref f_checked_blocks))) (l_checked_blocks : K.lookup f_checked_blocks = some ⟨oc_checked_blocks, od_checked_blocks, .func (PySem.W.fnOf "checked_blocks" "checked_blocks" (defArgs s_checked_blocks) (defBody s_checked_blocks) (defScope s_checked_blocks) .none kV_checked_blocks dc_checked_blocks pm_checked_blocks an_checked_blocks cd_checked_blocks ct_checked_blocks), sl_checked_blocks⟩) (y_checked_blocks : PySem.W.codeIn K cd_checked_blocks "checked_blocks" = true) (k_checked_blocks : PySem.W.keepIn K (.ref f_checked_blocks) = true)
    {f_width_of : Addr} {od_width_of an_width_of : Option Addr} {sl_width_of : Array (Option Value)} {oc_width_of kV_width_of dc_width_of pm_width_of cd_width_of ct_width_of : Value}
    (a_width_of : PySem.W.nsIn K mainGlobals "width_of" = some (some (.ref f_width_of))) (l_width_of : K.lookup f_width_of = some ⟨oc_width_of, od_width_of, .func (PySem.W.fnOf "width_of" "width_of" (defArgs s_width_of) (defBody s_width_of) (defScope s_width_of) .none kV_width_of dc_width_of pm_width_of an_width_of cd_width_of ct_width_of), sl_width_of⟩) (y_width_of : PySem.W.codeIn K cd_width_of "width_of" = true) (k_width_of : PySem.W.keepIn K (.ref f_width_of) = true)
    {f_add_piece : Addr} {od_add_piece an_add_piece : Option Addr} {sl_add_piece : Array (Option Value)} {oc_add_piece kV_add_piece dc_add_piece pm_add_piece cd_add_piece ct_add_piece : Value}
    (a_add_piece : PySem.W.nsIn K mainGlobals "add_piece" = some (some (.ref f_add_piece))) (l_add_piece : K.lookup f_add_piece = some ⟨oc_add_piece, od_add_piece, .func (PySem.W.fnOf "add_piece" "add_piece" (defArgs s_add_piece) (defBody s_add_piece) (defScope s_add_piece) .none kV_add_piece dc_add_piece pm_add_piece an_add_piece cd_add_piece ct_add_piece), sl_add_piece⟩) (y_add_piece : PySem.W.codeIn K cd_add_piece "add_piece" = true) (k_add_piece : PySem.W.keepIn K (.ref f_add_piece) = true)
    {f_pieces_of : Addr} {od_pieces_of an_pieces_of : Option Addr} {sl_pieces_of : Array (Option Value)} {oc_pieces_of kV_pieces_of dc_pieces_of pm_pieces_of cd_pieces_of ct_pieces_of : Value}
    (a_pieces_of : PySem.W.nsIn K mainGlobals "pieces_of" = some (some (.ref f_pieces_of))) (l_pieces_of : K.lookup f_pieces_of = some ⟨oc_pieces_of, od_pieces_of, .func (PySem.W.fnOf "pieces_of" "pieces_of" (defArgs s_pieces_of) (defBody s_pieces_of) (defScope s_pieces_of) .none kV_pieces_of dc_pieces_of pm_pieces_of an_pieces_of cd_pieces_of ct_pieces_of), sl_pieces_of⟩) (y_pieces_of : PySem.W.codeIn K cd_pieces_of "pieces_of" = true) (k_pieces_of : PySem.W.keepIn K (.ref f_pieces_of) = true)
    {f_add_parts : Addr} {od_add_parts an_add_parts : Option Addr} {sl_add_parts : Array (Option Value)} {oc_add_parts kV_add_parts dc_add_parts pm_add_parts cd_add_parts ct_add_parts : Value}
    (a_add_parts : PySem.W.nsIn K mainGlobals "add_parts" = some (some (.ref f_add_parts))) (l_add_parts : K.lookup f_add_parts = some ⟨oc_add_parts, od_add_parts, .func (PySem.W.fnOf "add_parts" "add_parts" (defArgs s_add_parts) (defBody s_add_parts) (defScope s_add_parts) .none kV_add_parts dc_add_parts pm_add_parts an_add_parts cd_add_parts ct_add_parts), sl_add_parts⟩) (y_add_parts : PySem.W.codeIn K cd_add_parts "add_parts" = true) (k_add_parts : PySem.W.keepIn K (.ref f_add_parts) = true)
    {f_numbered_by : Addr} {od_numbered_by an_numbered_by : Option Addr} {sl_numbered_by : Array (Option Value)} {oc_numbered_by kV_numbered_by dc_numbered_by pm_numbered_by cd_numbered_by ct_numbered_by : Value}
    (a_numbered_by : PySem.W.nsIn K mainGlobals "numbered_by" = some (some (.ref f_numbered_by))) (l_numbered_by : K.lookup f_numbered_by = some ⟨oc_numbered_by, od_numbered_by, .func (PySem.W.fnOf "numbered_by" "numbered_by" (defArgs s_numbered_by) (defBody s_numbered_by) (defScope s_numbered_by) .none kV_numbered_by dc_numbered_by pm_numbered_by an_numbered_by cd_numbered_by ct_numbered_by), sl_numbered_by⟩) (y_numbered_by : PySem.W.codeIn K cd_numbered_by "numbered_by" = true) (k_numbered_by : PySem.W.keepIn K (.ref f_numbered_by) = true)
    {f_stretches_of : Addr} {od_stretches_of an_stretches_of : Option Addr} {sl_stretches_of : Array (Option Value)} {oc_stretches_of kV_stretches_of dc_stretches_of pm_stretches_of cd_stretches_of ct_stretches_of : Value}
    (a_stretches_of : PySem.W.nsIn K mainGlobals "stretches_of" = some (some (.ref f_stretches_of))) (l_stretches_of : K.lookup f_stretches_of = some ⟨oc_stretches_of, od_stretches_of, .func (PySem.W.fnOf "stretches_of" "stretches_of" (defArgs s_stretches_of) (defBody s_stretches_of) (defScope s_stretches_of) .none kV_stretches_of dc_stretches_of pm_stretches_of an_stretches_of cd_stretches_of ct_stretches_of), sl_stretches_of⟩) (y_stretches_of : PySem.W.codeIn K cd_stretches_of "stretches_of" = true) (k_stretches_of : PySem.W.keepIn K (.ref f_stretches_of) = true)
    {f_take : Addr} {od_take an_take : Option Addr} {sl_take : Array (Option Value)} {oc_take kV_take dc_take pm_take cd_take ct_take : Value}
    (a_take : PySem.W.nsIn K mainGlobals "take" = some (some (.ref f_take))) (l_take : K.lookup f_take = some ⟨oc_take, od_take, .func (PySem.W.fnOf "take" "take" (defArgs s_take) (defBody s_take) (defScope s_take) .none kV_take dc_take pm_take an_take cd_take ct_take), sl_take⟩) (y_take : PySem.W.codeIn K cd_take "take" = true) (k_take : PySem.W.keepIn K (.ref f_take) = true)
    {f_blocks_with : Addr} {od_blocks_with an_blocks_with : Option Addr} {sl_blocks_with : Array (Option Value)} {oc_blocks_with kV_blocks_with dc_blocks_with pm_blocks_with cd_blocks_with ct_blocks_with : Value}
    (a_blocks_with : PySem.W.nsIn K mainGlobals "blocks_with" = some (some (.ref f_blocks_with))) (l_blocks_with : K.lookup f_blocks_with = some ⟨oc_blocks_with, od_blocks_with, .func (PySem.W.fnOf "blocks_with" "blocks_with" (defArgs s_blocks_with) (defBody s_blocks_with) (defScope s_blocks_with) .none kV_blocks_with dc_blocks_with pm_blocks_with an_blocks_with cd_blocks_with ct_blocks_with), sl_blocks_with⟩) (y_blocks_with : PySem.W.codeIn K cd_blocks_with "blocks_with" = true) (k_blocks_with : PySem.W.keepIn K (.ref f_blocks_with) = true)
    {f_count_by : Addr} {od_count_by an_count_by : Option Addr} {sl_count_by : Array (Option Value)} {oc_count_by kV_count_by dc_count_by pm_count_by cd_count_by ct_count_by : Value}
    (a_count_by : PySem.W.nsIn K mainGlobals "count_by" = some (some (.ref f_count_by))) (l_count_by : K.lookup f_count_by = some ⟨oc_count_by, od_count_by, .func (PySem.W.fnOf "count_by" "count_by" (defArgs s_count_by) (defBody s_count_by) (defScope s_count_by) .none kV_count_by dc_count_by pm_count_by an_count_by cd_count_by ct_count_by), sl_count_by⟩) (y_count_by : PySem.W.codeIn K cd_count_by "count_by" = true) (k_count_by : PySem.W.keepIn K (.ref f_count_by) = true)
    {f_with_level : Addr} {od_with_level an_with_level : Option Addr} {sl_with_level : Array (Option Value)} {oc_with_level kV_with_level dc_with_level pm_with_level cd_with_level ct_with_level : Value}
    (a_with_level : PySem.W.nsIn K mainGlobals "with_level" = some (some (.ref f_with_level))) (l_with_level : K.lookup f_with_level = some ⟨oc_with_level, od_with_level, .func (PySem.W.fnOf "with_level" "with_level" (defArgs s_with_level) (defBody s_with_level) (defScope s_with_level) .none kV_with_level dc_with_level pm_with_level an_with_level cd_with_level ct_with_level), sl_with_level⟩) (y_with_level : PySem.W.codeIn K cd_with_level "with_level" = true) (k_with_level : PySem.W.keepIn K (.ref f_with_level) = true)
    {f_lowered_by : Addr} {od_lowered_by an_lowered_by : Option Addr} {sl_lowered_by : Array (Option Value)} {oc_lowered_by kV_lowered_by dc_lowered_by pm_lowered_by cd_lowered_by ct_lowered_by : Value}
    (a_lowered_by : PySem.W.nsIn K mainGlobals "lowered_by" = some (some (.ref f_lowered_by))) (l_lowered_by : K.lookup f_lowered_by = some ⟨oc_lowered_by, od_lowered_by, .func (PySem.W.fnOf "lowered_by" "lowered_by" (defArgs s_lowered_by) (defBody s_lowered_by) (defScope s_lowered_by) .none kV_lowered_by dc_lowered_by pm_lowered_by an_lowered_by cd_lowered_by ct_lowered_by), sl_lowered_by⟩) (y_lowered_by : PySem.W.codeIn K cd_lowered_by "lowered_by" = true) (k_lowered_by : PySem.W.keepIn K (.ref f_lowered_by) = true)
    {f_raised_by : Addr} {od_raised_by an_raised_by : Option Addr} {sl_raised_by : Array (Option Value)} {oc_raised_by kV_raised_by dc_raised_by pm_raised_by cd_raised_by ct_raised_by : Value}
    (a_raised_by : PySem.W.nsIn K mainGlobals "raised_by" = some (some (.ref f_raised_by))) (l_raised_by : K.lookup f_raised_by = some ⟨oc_raised_by, od_raised_by, .func (PySem.W.fnOf "raised_by" "raised_by" (defArgs s_raised_by) (defBody s_raised_by) (defScope s_raised_by) .none kV_raised_by dc_raised_by pm_raised_by an_raised_by cd_raised_by ct_raised_by), sl_raised_by⟩) (y_raised_by : PySem.W.codeIn K cd_raised_by "raised_by" = true) (k_raised_by : PySem.W.keepIn K (.ref f_raised_by) = true)
    {f_checked_number : Addr} {od_checked_number an_checked_number : Option Addr} {sl_checked_number : Array (Option Value)} {oc_checked_number kV_checked_number dc_checked_number pm_checked_number cd_checked_number ct_checked_number : Value}
    (a_checked_number : PySem.W.nsIn K mainGlobals "checked_number" = some (some (.ref f_checked_number))) (l_checked_number : K.lookup f_checked_number = some ⟨oc_checked_number, od_checked_number, .func (PySem.W.fnOf "checked_number" "checked_number" (defArgs s_checked_number) (defBody s_checked_number) (defScope s_checked_number) .none kV_checked_number dc_checked_number pm_checked_number an_checked_number cd_checked_number ct_checked_number), sl_checked_number⟩) (y_checked_number : PySem.W.codeIn K cd_checked_number "checked_number" = true) (k_checked_number : PySem.W.keepIn K (.ref f_checked_number) = true)
    {f_lowered : Addr} {od_lowered an_lowered : Option Addr} {sl_lowered : Array (Option Value)} {oc_lowered kV_lowered dc_lowered pm_lowered cd_lowered ct_lowered : Value}
    (a_lowered : PySem.W.nsIn K mainGlobals "lowered" = some (some (.ref f_lowered))) (l_lowered : K.lookup f_lowered = some ⟨oc_lowered, od_lowered, .func (PySem.W.fnOf "lowered" "lowered" (defArgs s_lowered) (defBody s_lowered) (defScope s_lowered) .none kV_lowered dc_lowered pm_lowered an_lowered cd_lowered ct_lowered), sl_lowered⟩) (y_lowered : PySem.W.codeIn K cd_lowered "lowered" = true) (k_lowered : PySem.W.keepIn K (.ref f_lowered) = true)
    {f_raised : Addr} {od_raised an_raised : Option Addr} {sl_raised : Array (Option Value)} {oc_raised kV_raised dc_raised pm_raised cd_raised ct_raised : Value}
    (a_raised : PySem.W.nsIn K mainGlobals "raised" = some (some (.ref f_raised))) (l_raised : K.lookup f_raised = some ⟨oc_raised, od_raised, .func (PySem.W.fnOf "raised" "raised" (defArgs s_raised) (defBody s_raised) (defScope s_raised) .none kV_raised dc_raised pm_raised an_raised cd_raised ct_raised), sl_raised⟩) (y_raised : PySem.W.codeIn K cd_raised "raised" = true) (k_raised : PySem.W.keepIn K (.ref f_raised) = true)
    {f_l_bag : Addr} {od_l_bag an_l_bag : Option Addr} {sl_l_bag : Array (Option Value)} {oc_l_bag kV_l_bag dc_l_bag pm_l_bag cd_l_bag ct_l_bag : Value}
    (a_l_bag : PySem.W.nsIn K mainGlobals "_law_bag" = some (some (.ref f_l_bag))) (l_l_bag : K.lookup f_l_bag = some ⟨oc_l_bag, od_l_bag, .func (PySem.W.fnOf "_law_bag" "_law_bag" (defArgs s_l_bag) (defBody s_l_bag) (defScope s_l_bag) .none kV_l_bag dc_l_bag pm_l_bag an_l_bag cd_l_bag ct_l_bag), sl_l_bag⟩) (y_l_bag : PySem.W.codeIn K cd_l_bag "_law_bag" = true) (k_l_bag : PySem.W.keepIn K (.ref f_l_bag) = true)
    {f_l_stir : Addr} {od_l_stir an_l_stir : Option Addr} {sl_l_stir : Array (Option Value)} {oc_l_stir kV_l_stir dc_l_stir pm_l_stir cd_l_stir ct_l_stir : Value}
    (a_l_stir : PySem.W.nsIn K mainGlobals "_law_stir" = some (some (.ref f_l_stir))) (l_l_stir : K.lookup f_l_stir = some ⟨oc_l_stir, od_l_stir, .func (PySem.W.fnOf "_law_stir" "_law_stir" (defArgs s_l_stir) (defBody s_l_stir) (defScope s_l_stir) .none kV_l_stir dc_l_stir pm_l_stir an_l_stir cd_l_stir ct_l_stir), sl_l_stir⟩) (y_l_stir : PySem.W.codeIn K cd_l_stir "_law_stir" = true) (k_l_stir : PySem.W.keepIn K (.ref f_l_stir) = true)
    {f_g_draw : Addr} {od_g_draw an_g_draw : Option Addr} {sl_g_draw : Array (Option Value)} {oc_g_draw kV_g_draw dc_g_draw pm_g_draw cd_g_draw ct_g_draw : Value}
    (a_g_draw : PySem.W.nsIn K mainGlobals "_law_draw" = some (some (.ref f_g_draw))) (l_g_draw : K.lookup f_g_draw = some ⟨oc_g_draw, od_g_draw, .func (PySem.W.fnOf "_law_draw" "_law_draw" (defArgs s_g_draw) (defBody s_g_draw) (defScope s_g_draw) .none kV_g_draw dc_g_draw pm_g_draw an_g_draw cd_g_draw ct_g_draw), sl_g_draw⟩) (y_g_draw : PySem.W.codeIn K cd_g_draw "_law_draw" = true) (k_g_draw : PySem.W.keepIn K (.ref f_g_draw) = true)
    {f_l_shuffled : Addr} {od_l_shuffled an_l_shuffled : Option Addr} {sl_l_shuffled : Array (Option Value)} {oc_l_shuffled kV_l_shuffled dc_l_shuffled pm_l_shuffled cd_l_shuffled ct_l_shuffled : Value}
    (a_l_shuffled : PySem.W.nsIn K mainGlobals "_law_shuffled" = some (some (.ref f_l_shuffled))) (l_l_shuffled : K.lookup f_l_shuffled = some ⟨oc_l_shuffled, od_l_shuffled, .func (PySem.W.fnOf "_law_shuffled" "_law_shuffled" (defArgs s_l_shuffled) (defBody s_l_shuffled) (defScope s_l_shuffled) .none kV_l_shuffled dc_l_shuffled pm_l_shuffled an_l_shuffled cd_l_shuffled ct_l_shuffled), sl_l_shuffled⟩) (y_l_shuffled : PySem.W.codeIn K cd_l_shuffled "_law_shuffled" = true) (k_l_shuffled : PySem.W.keepIn K (.ref f_l_shuffled) = true)
    {f_l_either : Addr} {od_l_either an_l_either : Option Addr} {sl_l_either : Array (Option Value)} {oc_l_either kV_l_either dc_l_either pm_l_either cd_l_either ct_l_either : Value}
    (a_l_either : PySem.W.nsIn K mainGlobals "_law_either" = some (some (.ref f_l_either))) (l_l_either : K.lookup f_l_either = some ⟨oc_l_either, od_l_either, .func (PySem.W.fnOf "_law_either" "_law_either" (defArgs s_l_either) (defBody s_l_either) (defScope s_l_either) .none kV_l_either dc_l_either pm_l_either an_l_either cd_l_either ct_l_either), sl_l_either⟩) (y_l_either : PySem.W.codeIn K cd_l_either "_law_either" = true) (k_l_either : PySem.W.keepIn K (.ref f_l_either) = true)
    {f_l_escaped : Addr} {od_l_escaped an_l_escaped : Option Addr} {sl_l_escaped : Array (Option Value)} {oc_l_escaped kV_l_escaped dc_l_escaped pm_l_escaped cd_l_escaped ct_l_escaped : Value}
    (a_l_escaped : PySem.W.nsIn K mainGlobals "_law_escaped" = some (some (.ref f_l_escaped))) (l_l_escaped : K.lookup f_l_escaped = some ⟨oc_l_escaped, od_l_escaped, .func (PySem.W.fnOf "_law_escaped" "_law_escaped" (defArgs s_l_escaped) (defBody s_l_escaped) (defScope s_l_escaped) .none kV_l_escaped dc_l_escaped pm_l_escaped an_l_escaped cd_l_escaped ct_l_escaped), sl_l_escaped⟩) (y_l_escaped : PySem.W.codeIn K cd_l_escaped "_law_escaped" = true) (k_l_escaped : PySem.W.keepIn K (.ref f_l_escaped) = true)
    {f_l_plains : Addr} {od_l_plains an_l_plains : Option Addr} {sl_l_plains : Array (Option Value)} {oc_l_plains kV_l_plains dc_l_plains pm_l_plains cd_l_plains ct_l_plains : Value}
    (a_l_plains : PySem.W.nsIn K mainGlobals "_law_plains" = some (some (.ref f_l_plains))) (l_l_plains : K.lookup f_l_plains = some ⟨oc_l_plains, od_l_plains, .func (PySem.W.fnOf "_law_plains" "_law_plains" (defArgs s_l_plains) (defBody s_l_plains) (defScope s_l_plains) .none kV_l_plains dc_l_plains pm_l_plains an_l_plains cd_l_plains ct_l_plains), sl_l_plains⟩) (y_l_plains : PySem.W.codeIn K cd_l_plains "_law_plains" = true) (k_l_plains : PySem.W.keepIn K (.ref f_l_plains) = true)
    {f_l_plain : Addr} {od_l_plain an_l_plain : Option Addr} {sl_l_plain : Array (Option Value)} {oc_l_plain kV_l_plain dc_l_plain pm_l_plain cd_l_plain ct_l_plain : Value}
    (a_l_plain : PySem.W.nsIn K mainGlobals "_law_plain" = some (some (.ref f_l_plain))) (l_l_plain : K.lookup f_l_plain = some ⟨oc_l_plain, od_l_plain, .func (PySem.W.fnOf "_law_plain" "_law_plain" (defArgs s_l_plain) (defBody s_l_plain) (defScope s_l_plain) .none kV_l_plain dc_l_plain pm_l_plain an_l_plain cd_l_plain ct_l_plain), sl_l_plain⟩) (y_l_plain : PySem.W.codeIn K cd_l_plain "_law_plain" = true) (k_l_plain : PySem.W.keepIn K (.ref f_l_plain) = true)
    {f_r_string : Addr} {od_r_string an_r_string : Option Addr} {sl_r_string : Array (Option Value)} {oc_r_string kV_r_string dc_r_string pm_r_string cd_r_string ct_r_string : Value}
    (a_r_string : PySem.W.nsIn K mainGlobals "_law_string" = some (some (.ref f_r_string))) (l_r_string : K.lookup f_r_string = some ⟨oc_r_string, od_r_string, .func (PySem.W.fnOf "_law_string" "_law_string" (defArgs s_r_string) (defBody s_r_string) (defScope s_r_string) .none kV_r_string dc_r_string pm_r_string an_r_string cd_r_string ct_r_string), sl_r_string⟩) (y_r_string : PySem.W.codeIn K cd_r_string "_law_string" = true) (k_r_string : PySem.W.keepIn K (.ref f_r_string) = true)
    {f_a_all : Addr} {od_a_all an_a_all : Option Addr} {sl_a_all : Array (Option Value)} {oc_a_all kV_a_all dc_a_all pm_a_all cd_a_all ct_a_all : Value}
    (a_a_all : PySem.W.nsIn K mainGlobals "_law_all" = some (some (.ref f_a_all))) (l_a_all : K.lookup f_a_all = some ⟨oc_a_all, od_a_all, .func (PySem.W.fnOf "_law_all" "_law_all" (defArgs s_a_all) (defBody s_a_all) (defScope s_a_all) .none kV_a_all dc_a_all pm_a_all an_a_all cd_a_all ct_a_all), sl_a_all⟩) (y_a_all : PySem.W.codeIn K cd_a_all "_law_all" = true) (k_a_all : PySem.W.keepIn K (.ref f_a_all) = true)
    {f_a_blocks : Addr} {od_a_blocks an_a_blocks : Option Addr} {sl_a_blocks : Array (Option Value)} {oc_a_blocks kV_a_blocks dc_a_blocks pm_a_blocks cd_a_blocks ct_a_blocks : Value}
    (a_a_blocks : PySem.W.nsIn K mainGlobals "_law_blocks" = some (some (.ref f_a_blocks))) (l_a_blocks : K.lookup f_a_blocks = some ⟨oc_a_blocks, od_a_blocks, .func (PySem.W.fnOf "_law_blocks" "_law_blocks" (defArgs s_a_blocks) (defBody s_a_blocks) (defScope s_a_blocks) .none kV_a_blocks dc_a_blocks pm_a_blocks an_a_blocks cd_a_blocks ct_a_blocks), sl_a_blocks⟩) (y_a_blocks : PySem.W.codeIn K cd_a_blocks "_law_blocks" = true) (k_a_blocks : PySem.W.keepIn K (.ref f_a_blocks) = true)
    {f_m_profile : Addr} {od_m_profile an_m_profile : Option Addr} {sl_m_profile : Array (Option Value)} {oc_m_profile kV_m_profile dc_m_profile pm_m_profile cd_m_profile ct_m_profile : Value}
    (a_m_profile : PySem.W.nsIn K mainGlobals "_law_profile" = some (some (.ref f_m_profile))) (l_m_profile : K.lookup f_m_profile = some ⟨oc_m_profile, od_m_profile, .func (PySem.W.fnOf "_law_profile" "_law_profile" (defArgs s_m_profile) (defBody s_m_profile) (defScope s_m_profile) .none kV_m_profile dc_m_profile pm_m_profile an_m_profile cd_m_profile ct_m_profile), sl_m_profile⟩) (y_m_profile : PySem.W.codeIn K cd_m_profile "_law_profile" = true) (k_m_profile : PySem.W.keepIn K (.ref f_m_profile) = true)
    {f_o_dressed : Addr} {od_o_dressed an_o_dressed : Option Addr} {sl_o_dressed : Array (Option Value)} {oc_o_dressed kV_o_dressed dc_o_dressed pm_o_dressed cd_o_dressed ct_o_dressed : Value}
    (a_o_dressed : PySem.W.nsIn K mainGlobals "_law_dressed" = some (some (.ref f_o_dressed))) (l_o_dressed : K.lookup f_o_dressed = some ⟨oc_o_dressed, od_o_dressed, .func (PySem.W.fnOf "_law_dressed" "_law_dressed" (defArgs s_o_dressed) (defBody s_o_dressed) (defScope s_o_dressed) .none kV_o_dressed dc_o_dressed pm_o_dressed an_o_dressed cd_o_dressed ct_o_dressed), sl_o_dressed⟩) (y_o_dressed : PySem.W.codeIn K cd_o_dressed "_law_dressed" = true) (k_o_dressed : PySem.W.keepIn K (.ref f_o_dressed) = true)
    {f_w_low : Addr} {od_w_low an_w_low : Option Addr} {sl_w_low : Array (Option Value)} {oc_w_low kV_w_low dc_w_low pm_w_low cd_w_low ct_w_low : Value}
    (a_w_low : PySem.W.nsIn K mainGlobals "_law_low" = some (some (.ref f_w_low))) (l_w_low : K.lookup f_w_low = some ⟨oc_w_low, od_w_low, .func (PySem.W.fnOf "_law_low" "_law_low" (defArgs s_w_low) (defBody s_w_low) (defScope s_w_low) .none kV_w_low dc_w_low pm_w_low an_w_low cd_w_low ct_w_low), sl_w_low⟩) (y_w_low : PySem.W.codeIn K cd_w_low "_law_low" = true) (k_w_low : PySem.W.keepIn K (.ref f_w_low) = true)
    {f_w_high : Addr} {od_w_high an_w_high : Option Addr} {sl_w_high : Array (Option Value)} {oc_w_high kV_w_high dc_w_high pm_w_high cd_w_high ct_w_high : Value}
    (a_w_high : PySem.W.nsIn K mainGlobals "_law_high" = some (some (.ref f_w_high))) (l_w_high : K.lookup f_w_high = some ⟨oc_w_high, od_w_high, .func (PySem.W.fnOf "_law_high" "_law_high" (defArgs s_w_high) (defBody s_w_high) (defScope s_w_high) .none kV_w_high dc_w_high pm_w_high an_w_high cd_w_high ct_w_high), sl_w_high⟩) (y_w_high : PySem.W.codeIn K cd_w_high "_law_high" = true) (k_w_high : PySem.W.keepIn K (.ref f_w_high) = true)
    {f_w_due : Addr} {od_w_due an_w_due : Option Addr} {sl_w_due : Array (Option Value)} {oc_w_due kV_w_due dc_w_due pm_w_due cd_w_due ct_w_due : Value}
    (a_w_due : PySem.W.nsIn K mainGlobals "_law_due" = some (some (.ref f_w_due))) (l_w_due : K.lookup f_w_due = some ⟨oc_w_due, od_w_due, .func (PySem.W.fnOf "_law_due" "_law_due" (defArgs s_w_due) (defBody s_w_due) (defScope s_w_due) .none kV_w_due dc_w_due pm_w_due an_w_due cd_w_due ct_w_due), sl_w_due⟩) (y_w_due : PySem.W.codeIn K cd_w_due "_law_due" = true) (k_w_due : PySem.W.keepIn K (.ref f_w_due) = true)
    {f_w_right : Addr} {od_w_right an_w_right : Option Addr} {sl_w_right : Array (Option Value)} {oc_w_right kV_w_right dc_w_right pm_w_right cd_w_right ct_w_right : Value}
    (a_w_right : PySem.W.nsIn K mainGlobals "_law_right" = some (some (.ref f_w_right))) (l_w_right : K.lookup f_w_right = some ⟨oc_w_right, od_w_right, .func (PySem.W.fnOf "_law_right" "_law_right" (defArgs s_w_right) (defBody s_w_right) (defScope s_w_right) .none kV_w_right dc_w_right pm_w_right an_w_right cd_w_right ct_w_right), sl_w_right⟩) (y_w_right : PySem.W.codeIn K cd_w_right "_law_right" = true) (k_w_right : PySem.W.keepIn K (.ref f_w_right) = true)
    {f_law : Addr} {od_law an_law : Option Addr} {sl_law : Array (Option Value)} {oc_law kV_law dc_law pm_law cd_law ct_law : Value}
    (a_law : PySem.W.nsIn K mainGlobals "law" = some (some (.ref f_law))) (l_law : K.lookup f_law = some ⟨oc_law, od_law, .func (PySem.W.fnOf "law" "law" (defArgs s_law) (defBody s_law) (defScope s_law) .none kV_law dc_law pm_law an_law cd_law ct_law), sl_law⟩) (y_law : PySem.W.codeIn K cd_law "law" = true) (k_law : PySem.W.keepIn K (.ref f_law) = true)
    {tg_PERCENT_CODE : Tok} (g_PERCENT_CODE : PySem.W.nsIn K mainGlobals "PERCENT_CODE" = some (some (.int 37 tg_PERCENT_CODE)))
    {tg_MAX_ESCAPES : Tok} (g_MAX_ESCAPES : PySem.W.nsIn K mainGlobals "MAX_ESCAPES" = some (some (.int 200 tg_MAX_ESCAPES)))
    {ta_SPECIAL : Addr} {dx_SPECIAL : Option Addr} {tn_SPECIAL : Nat} {tsl_SPECIAL : Array (Option Value)} {tt0_SPECIAL tt1_SPECIAL : Tok} (g_SPECIAL : PySem.W.nsIn K mainGlobals "SPECIAL" = some (some (.ref ta_SPECIAL))) (gl_SPECIAL : K.lookup ta_SPECIAL = some ⟨.type "tuple", dx_SPECIAL, .seq #[.str "\\" tt0_SPECIAL, .str "\"" tt1_SPECIAL] tn_SPECIAL, tsl_SPECIAL⟩)
    {tg_BACKSLASH : Tok} (g_BACKSLASH : PySem.W.nsIn K mainGlobals "BACKSLASH" = some (some (.str "\\" tg_BACKSLASH)))
    {tg_QUOTE : Tok} (g_QUOTE : PySem.W.nsIn K mainGlobals "QUOTE" = some (some (.str "\"" tg_QUOTE)))
    (z_all : PySem.W.nsIn K mainGlobals "all" = some none)
    (z_bool : PySem.W.nsIn K mainGlobals "bool" = some none)
    (z_enumerate : PySem.W.nsIn K mainGlobals "enumerate" = some none)
    (z_int : PySem.W.nsIn K mainGlobals "int" = some none)
    (z_isinstance : PySem.W.nsIn K mainGlobals "isinstance" = some none)
    (z_len : PySem.W.nsIn K mainGlobals "len" = some none)
    (z_list : PySem.W.nsIn K mainGlobals "list" = some none)
    (z_min : PySem.W.nsIn K mainGlobals "min" = some none)
    (z_ord : PySem.W.nsIn K mainGlobals "ord" = some none)
    (z_range : PySem.W.nsIn K mainGlobals "range" = some none)
    (z_repr : PySem.W.nsIn K mainGlobals "repr" = some none)
    (z_set : PySem.W.nsIn K mainGlobals "set" = some none)
    (z_sorted : PySem.W.nsIn K mainGlobals "sorted" = some none)
    (z_str : PySem.W.nsIn K mainGlobals "str" = some none)
    (z_sum : PySem.W.nsIn K mainGlobals "sum" = some none)
    (z_tuple : PySem.W.nsIn K mainGlobals "tuple" = some none)
    (z_zip : PySem.W.nsIn K mainGlobals "zip" = some none)
    : ∃ fd : FuncData, (∀ (s : Shared) (v : Value), BindsTo s fd ⟨[v], []⟩ [("_law_script", v)]) ∧ ∀ base : Heap, K.In base → base.Ns mainGlobals mg → (∃ o es ep, base.get? sysModules = some o ∧ o.data = .dict es ep) → FnG P w K mg base 11 fa fd ["_law_script"] (spV K 1 lawC) := by
  have e := hfa.symm.trans (PySem.W.mg_of X G a_law)
  cases e
  have B : Bi mg := ⟨PySem.W.mg_none_of X G z_all, PySem.W.mg_none_of X G z_bool, PySem.W.mg_none_of X G z_enumerate, PySem.W.mg_none_of X G z_int, PySem.W.mg_none_of X G z_isinstance, PySem.W.mg_none_of X G z_len, PySem.W.mg_none_of X G z_list, PySem.W.mg_none_of X G z_min, PySem.W.mg_none_of X G z_ord, PySem.W.mg_none_of X G z_range, PySem.W.mg_none_of X G z_repr, PySem.W.mg_none_of X G z_set, PySem.W.mg_none_of X G z_sorted, PySem.W.mg_none_of X G z_str, PySem.W.mg_none_of X G z_sum, PySem.W.mg_none_of X G z_tuple, PySem.W.mg_none_of X G z_zip⟩
  have F_is_integer : FunD K "is_integer" "is_integer" (defArgs s_is_integer) (defBody s_is_integer) (defScope s_is_integer) [.non] [] f_is_integer _ := ⟨⟨oc_is_integer, od_is_integer, (.ref T_is_integer), kV_is_integer, dc_is_integer, pm_is_integer, an_is_integer, cd_is_integer, ct_is_integer, sl_is_integer, rfl, l_is_integer, y_is_integer, .inr ⟨by simp, T_is_integer, _, [_], _, rfl, t_is_integer, rfl, .cons rfl (.nil)⟩, .inl rfl⟩, k_is_integer⟩
  have F_is_symbol : FunD K "is_symbol" "is_symbol" (defArgs s_is_symbol) (defBody s_is_symbol) (defScope s_is_symbol) [] [] f_is_symbol _ := ⟨⟨oc_is_symbol, od_is_symbol, .none, kV_is_symbol, dc_is_symbol, pm_is_symbol, an_is_symbol, cd_is_symbol, ct_is_symbol, sl_is_symbol, rfl, l_is_symbol, y_is_symbol, .inl ⟨rfl, rfl⟩, .inl rfl⟩, k_is_symbol⟩
  have F_is_run : FunD K "is_run" "is_run" (defArgs s_is_run) (defBody s_is_run) (defScope s_is_run) [] [] f_is_run _ := ⟨⟨oc_is_run, od_is_run, .none, kV_is_run, dc_is_run, pm_is_run, an_is_run, cd_is_run, ct_is_run, sl_is_run, rfl, l_is_run, y_is_run, .inl ⟨rfl, rfl⟩, .inl rfl⟩, k_is_run⟩
  have F_is_text : FunD K "is_text" "is_text" (defArgs s_is_text) (defBody s_is_text) (defScope s_is_text) [] [] f_is_text _ := ⟨⟨oc_is_text, od_is_text, .none, kV_is_text, dc_is_text, pm_is_text, an_is_text, cd_is_text, ct_is_text, sl_is_text, rfl, l_is_text, y_is_text, .inl ⟨rfl, rfl⟩, .inl rfl⟩, k_is_text⟩
  have F_power_of_two : FunD K "power_of_two" "power_of_two" (defArgs s_power_of_two) (defBody s_power_of_two) (defScope s_power_of_two) [] [] f_power_of_two _ := ⟨⟨oc_power_of_two, od_power_of_two, .none, kV_power_of_two, dc_power_of_two, pm_power_of_two, an_power_of_two, cd_power_of_two, ct_power_of_two, sl_power_of_two, rfl, l_power_of_two, y_power_of_two, .inl ⟨rfl, rfl⟩, .inl rfl⟩, k_power_of_two⟩
  have F_add_block : FunD K "add_block" "add_block" (defArgs s_add_block) (defBody s_add_block) (defScope s_add_block) [] [] f_add_block _ := ⟨⟨oc_add_block, od_add_block, .none, kV_add_block, dc_add_block, pm_add_block, an_add_block, cd_add_block, ct_add_block, sl_add_block, rfl, l_add_block, y_add_block, .inl ⟨rfl, rfl⟩, .inl rfl⟩, k_add_block⟩
  have F_is_block : FunD K "is_block" "is_block" (defArgs s_is_block) (defBody s_is_block) (defScope s_is_block) [] [] f_is_block _ := ⟨⟨oc_is_block, od_is_block, .none, kV_is_block, dc_is_block, pm_is_block, an_is_block, cd_is_block, ct_is_block, sl_is_block, rfl, l_is_block, y_is_block, .inl ⟨rfl, rfl⟩, .inl rfl⟩, k_is_block⟩
  have F_are_blocks : FunD K "are_blocks" "are_blocks" (defArgs s_are_blocks) (defBody s_are_blocks) (defScope s_are_blocks) [] [] f_are_blocks _ := ⟨⟨oc_are_blocks, od_are_blocks, .none, kV_are_blocks, dc_are_blocks, pm_are_blocks, an_are_blocks, cd_are_blocks, ct_are_blocks, sl_are_blocks, rfl, l_are_blocks, y_are_blocks, .inl ⟨rfl, rfl⟩, .inl rfl⟩, k_are_blocks⟩
  have F_checked_blocks : FunD K "checked_blocks" "checked_blocks" (defArgs s_checked_blocks) (defBody s_checked_blocks) (defScope s_checked_blocks) [] [] f_checked_blocks _ := ⟨⟨oc_checked_blocks, od_checked_blocks, .none, kV_checked_blocks, dc_checked_blocks, pm_checked_blocks, an_checked_blocks, cd_checked_blocks, ct_checked_blocks, sl_checked_blocks, rfl, l_checked_blocks, y_checked_blocks, .inl ⟨rfl, rfl⟩, .inl rfl⟩, k_checked_blocks⟩
  have F_width_of : FunD K "width_of" "width_of" (defArgs s_width_of) (defBody s_width_of) (defScope s_width_of) [] [] f_width_of _ := ⟨⟨oc_width_of, od_width_of, .none, kV_width_of, dc_width_of, pm_width_of, an_width_of, cd_width_of, ct_width_of, sl_width_of, rfl, l_width_of, y_width_of, .inl ⟨rfl, rfl⟩, .inl rfl⟩, k_width_of⟩
  have F_add_piece : FunD K "add_piece" "add_piece" (defArgs s_add_piece) (defBody s_add_piece) (defScope s_add_piece) [] [] f_add_piece _ := ⟨⟨oc_add_piece, od_add_piece, .none, kV_add_piece, dc_add_piece, pm_add_piece, an_add_piece, cd_add_piece, ct_add_piece, sl_add_piece, rfl, l_add_piece, y_add_piece, .inl ⟨rfl, rfl⟩, .inl rfl⟩, k_add_piece⟩
  have F_pieces_of : FunD K "pieces_of" "pieces_of" (defArgs s_pieces_of) (defBody s_pieces_of) (defScope s_pieces_of) [] [] f_pieces_of _ := ⟨⟨oc_pieces_of, od_pieces_of, .none, kV_pieces_of, dc_pieces_of, pm_pieces_of, an_pieces_of, cd_pieces_of, ct_pieces_of, sl_pieces_of, rfl, l_pieces_of, y_pieces_of, .inl ⟨rfl, rfl⟩, .inl rfl⟩, k_pieces_of⟩
  have F_add_parts : FunD K "add_parts" "add_parts" (defArgs s_add_parts) (defBody s_add_parts) (defScope s_add_parts) [] [] f_add_parts _ := ⟨⟨oc_add_parts, od_add_parts, .none, kV_add_parts, dc_add_parts, pm_add_parts, an_add_parts, cd_add_parts, ct_add_parts, sl_add_parts, rfl, l_add_parts, y_add_parts, .inl ⟨rfl, rfl⟩, .inl rfl⟩, k_add_parts⟩
  have F_numbered_by : FunD K "numbered_by" "numbered_by" (defArgs s_numbered_by) (defBody s_numbered_by) (defScope s_numbered_by) [] [] f_numbered_by _ := ⟨⟨oc_numbered_by, od_numbered_by, .none, kV_numbered_by, dc_numbered_by, pm_numbered_by, an_numbered_by, cd_numbered_by, ct_numbered_by, sl_numbered_by, rfl, l_numbered_by, y_numbered_by, .inl ⟨rfl, rfl⟩, .inl rfl⟩, k_numbered_by⟩
  have F_stretches_of : FunD K "stretches_of" "stretches_of" (defArgs s_stretches_of) (defBody s_stretches_of) (defScope s_stretches_of) [] [] f_stretches_of _ := ⟨⟨oc_stretches_of, od_stretches_of, .none, kV_stretches_of, dc_stretches_of, pm_stretches_of, an_stretches_of, cd_stretches_of, ct_stretches_of, sl_stretches_of, rfl, l_stretches_of, y_stretches_of, .inl ⟨rfl, rfl⟩, .inl rfl⟩, k_stretches_of⟩
  have F_take : FunD K "take" "take" (defArgs s_take) (defBody s_take) (defScope s_take) [] [] f_take _ := ⟨⟨oc_take, od_take, .none, kV_take, dc_take, pm_take, an_take, cd_take, ct_take, sl_take, rfl, l_take, y_take, .inl ⟨rfl, rfl⟩, .inl rfl⟩, k_take⟩
  have F_blocks_with : FunD K "blocks_with" "blocks_with" (defArgs s_blocks_with) (defBody s_blocks_with) (defScope s_blocks_with) [] [] f_blocks_with _ := ⟨⟨oc_blocks_with, od_blocks_with, .none, kV_blocks_with, dc_blocks_with, pm_blocks_with, an_blocks_with, cd_blocks_with, ct_blocks_with, sl_blocks_with, rfl, l_blocks_with, y_blocks_with, .inl ⟨rfl, rfl⟩, .inl rfl⟩, k_blocks_with⟩
  have F_count_by : FunD K "count_by" "count_by" (defArgs s_count_by) (defBody s_count_by) (defScope s_count_by) [] [] f_count_by _ := ⟨⟨oc_count_by, od_count_by, .none, kV_count_by, dc_count_by, pm_count_by, an_count_by, cd_count_by, ct_count_by, sl_count_by, rfl, l_count_by, y_count_by, .inl ⟨rfl, rfl⟩, .inl rfl⟩, k_count_by⟩
  have F_with_level : FunD K "with_level" "with_level" (defArgs s_with_level) (defBody s_with_level) (defScope s_with_level) [] [] f_with_level _ := ⟨⟨oc_with_level, od_with_level, .none, kV_with_level, dc_with_level, pm_with_level, an_with_level, cd_with_level, ct_with_level, sl_with_level, rfl, l_with_level, y_with_level, .inl ⟨rfl, rfl⟩, .inl rfl⟩, k_with_level⟩
  have F_lowered_by : FunD K "lowered_by" "lowered_by" (defArgs s_lowered_by) (defBody s_lowered_by) (defScope s_lowered_by) [] [] f_lowered_by _ := ⟨⟨oc_lowered_by, od_lowered_by, .none, kV_lowered_by, dc_lowered_by, pm_lowered_by, an_lowered_by, cd_lowered_by, ct_lowered_by, sl_lowered_by, rfl, l_lowered_by, y_lowered_by, .inl ⟨rfl, rfl⟩, .inl rfl⟩, k_lowered_by⟩
  have F_raised_by : FunD K "raised_by" "raised_by" (defArgs s_raised_by) (defBody s_raised_by) (defScope s_raised_by) [] [] f_raised_by _ := ⟨⟨oc_raised_by, od_raised_by, .none, kV_raised_by, dc_raised_by, pm_raised_by, an_raised_by, cd_raised_by, ct_raised_by, sl_raised_by, rfl, l_raised_by, y_raised_by, .inl ⟨rfl, rfl⟩, .inl rfl⟩, k_raised_by⟩
  have F_checked_number : FunD K "checked_number" "checked_number" (defArgs s_checked_number) (defBody s_checked_number) (defScope s_checked_number) [] [] f_checked_number _ := ⟨⟨oc_checked_number, od_checked_number, .none, kV_checked_number, dc_checked_number, pm_checked_number, an_checked_number, cd_checked_number, ct_checked_number, sl_checked_number, rfl, l_checked_number, y_checked_number, .inl ⟨rfl, rfl⟩, .inl rfl⟩, k_checked_number⟩
  have F_lowered : FunD K "lowered" "lowered" (defArgs s_lowered) (defBody s_lowered) (defScope s_lowered) [] [] f_lowered _ := ⟨⟨oc_lowered, od_lowered, .none, kV_lowered, dc_lowered, pm_lowered, an_lowered, cd_lowered, ct_lowered, sl_lowered, rfl, l_lowered, y_lowered, .inl ⟨rfl, rfl⟩, .inl rfl⟩, k_lowered⟩
  have F_raised : FunD K "raised" "raised" (defArgs s_raised) (defBody s_raised) (defScope s_raised) [] [] f_raised _ := ⟨⟨oc_raised, od_raised, .none, kV_raised, dc_raised, pm_raised, an_raised, cd_raised, ct_raised, sl_raised, rfl, l_raised, y_raised, .inl ⟨rfl, rfl⟩, .inl rfl⟩, k_raised⟩
  have F_l_bag : FunD K "_law_bag" "_law_bag" (defArgs s_l_bag) (defBody s_l_bag) (defScope s_l_bag) [] [] f_l_bag _ := ⟨⟨oc_l_bag, od_l_bag, .none, kV_l_bag, dc_l_bag, pm_l_bag, an_l_bag, cd_l_bag, ct_l_bag, sl_l_bag, rfl, l_l_bag, y_l_bag, .inl ⟨rfl, rfl⟩, .inl rfl⟩, k_l_bag⟩
  have F_l_stir : FunD K "_law_stir" "_law_stir" (defArgs s_l_stir) (defBody s_l_stir) (defScope s_l_stir) [] [] f_l_stir _ := ⟨⟨oc_l_stir, od_l_stir, .none, kV_l_stir, dc_l_stir, pm_l_stir, an_l_stir, cd_l_stir, ct_l_stir, sl_l_stir, rfl, l_l_stir, y_l_stir, .inl ⟨rfl, rfl⟩, .inl rfl⟩, k_l_stir⟩
  have F_g_draw : FunD K "_law_draw" "_law_draw" (defArgs s_g_draw) (defBody s_g_draw) (defScope s_g_draw) [] [] f_g_draw _ := ⟨⟨oc_g_draw, od_g_draw, .none, kV_g_draw, dc_g_draw, pm_g_draw, an_g_draw, cd_g_draw, ct_g_draw, sl_g_draw, rfl, l_g_draw, y_g_draw, .inl ⟨rfl, rfl⟩, .inl rfl⟩, k_g_draw⟩
  have F_l_shuffled : FunD K "_law_shuffled" "_law_shuffled" (defArgs s_l_shuffled) (defBody s_l_shuffled) (defScope s_l_shuffled) [] [] f_l_shuffled _ := ⟨⟨oc_l_shuffled, od_l_shuffled, .none, kV_l_shuffled, dc_l_shuffled, pm_l_shuffled, an_l_shuffled, cd_l_shuffled, ct_l_shuffled, sl_l_shuffled, rfl, l_l_shuffled, y_l_shuffled, .inl ⟨rfl, rfl⟩, .inl rfl⟩, k_l_shuffled⟩
  have F_l_either : FunD K "_law_either" "_law_either" (defArgs s_l_either) (defBody s_l_either) (defScope s_l_either) [] [] f_l_either _ := ⟨⟨oc_l_either, od_l_either, .none, kV_l_either, dc_l_either, pm_l_either, an_l_either, cd_l_either, ct_l_either, sl_l_either, rfl, l_l_either, y_l_either, .inl ⟨rfl, rfl⟩, .inl rfl⟩, k_l_either⟩
  have F_l_escaped : FunD K "_law_escaped" "_law_escaped" (defArgs s_l_escaped) (defBody s_l_escaped) (defScope s_l_escaped) [] [] f_l_escaped _ := ⟨⟨oc_l_escaped, od_l_escaped, .none, kV_l_escaped, dc_l_escaped, pm_l_escaped, an_l_escaped, cd_l_escaped, ct_l_escaped, sl_l_escaped, rfl, l_l_escaped, y_l_escaped, .inl ⟨rfl, rfl⟩, .inl rfl⟩, k_l_escaped⟩
  have F_l_plains : FunD K "_law_plains" "_law_plains" (defArgs s_l_plains) (defBody s_l_plains) (defScope s_l_plains) [] [] f_l_plains _ := ⟨⟨oc_l_plains, od_l_plains, .none, kV_l_plains, dc_l_plains, pm_l_plains, an_l_plains, cd_l_plains, ct_l_plains, sl_l_plains, rfl, l_l_plains, y_l_plains, .inl ⟨rfl, rfl⟩, .inl rfl⟩, k_l_plains⟩
  have F_l_plain : FunD K "_law_plain" "_law_plain" (defArgs s_l_plain) (defBody s_l_plain) (defScope s_l_plain) [] [] f_l_plain _ := ⟨⟨oc_l_plain, od_l_plain, .none, kV_l_plain, dc_l_plain, pm_l_plain, an_l_plain, cd_l_plain, ct_l_plain, sl_l_plain, rfl, l_l_plain, y_l_plain, .inl ⟨rfl, rfl⟩, .inl rfl⟩, k_l_plain⟩
  have F_r_string : FunD K "_law_string" "_law_string" (defArgs s_r_string) (defBody s_r_string) (defScope s_r_string) [] [] f_r_string _ := ⟨⟨oc_r_string, od_r_string, .none, kV_r_string, dc_r_string, pm_r_string, an_r_string, cd_r_string, ct_r_string, sl_r_string, rfl, l_r_string, y_r_string, .inl ⟨rfl, rfl⟩, .inl rfl⟩, k_r_string⟩
  have F_a_all : FunD K "_law_all" "_law_all" (defArgs s_a_all) (defBody s_a_all) (defScope s_a_all) [] [] f_a_all _ := ⟨⟨oc_a_all, od_a_all, .none, kV_a_all, dc_a_all, pm_a_all, an_a_all, cd_a_all, ct_a_all, sl_a_all, rfl, l_a_all, y_a_all, .inl ⟨rfl, rfl⟩, .inl rfl⟩, k_a_all⟩
  have F_a_blocks : FunD K "_law_blocks" "_law_blocks" (defArgs s_a_blocks) (defBody s_a_blocks) (defScope s_a_blocks) [] [] f_a_blocks _ := ⟨⟨oc_a_blocks, od_a_blocks, .none, kV_a_blocks, dc_a_blocks, pm_a_blocks, an_a_blocks, cd_a_blocks, ct_a_blocks, sl_a_blocks, rfl, l_a_blocks, y_a_blocks, .inl ⟨rfl, rfl⟩, .inl rfl⟩, k_a_blocks⟩
  have F_m_profile : FunD K "_law_profile" "_law_profile" (defArgs s_m_profile) (defBody s_m_profile) (defScope s_m_profile) [] [] f_m_profile _ := ⟨⟨oc_m_profile, od_m_profile, .none, kV_m_profile, dc_m_profile, pm_m_profile, an_m_profile, cd_m_profile, ct_m_profile, sl_m_profile, rfl, l_m_profile, y_m_profile, .inl ⟨rfl, rfl⟩, .inl rfl⟩, k_m_profile⟩
  have F_o_dressed : FunD K "_law_dressed" "_law_dressed" (defArgs s_o_dressed) (defBody s_o_dressed) (defScope s_o_dressed) [] [] f_o_dressed _ := ⟨⟨oc_o_dressed, od_o_dressed, .none, kV_o_dressed, dc_o_dressed, pm_o_dressed, an_o_dressed, cd_o_dressed, ct_o_dressed, sl_o_dressed, rfl, l_o_dressed, y_o_dressed, .inl ⟨rfl, rfl⟩, .inl rfl⟩, k_o_dressed⟩
  have F_w_low : FunD K "_law_low" "_law_low" (defArgs s_w_low) (defBody s_w_low) (defScope s_w_low) [] [] f_w_low _ := ⟨⟨oc_w_low, od_w_low, .none, kV_w_low, dc_w_low, pm_w_low, an_w_low, cd_w_low, ct_w_low, sl_w_low, rfl, l_w_low, y_w_low, .inl ⟨rfl, rfl⟩, .inl rfl⟩, k_w_low⟩
  have F_w_high : FunD K "_law_high" "_law_high" (defArgs s_w_high) (defBody s_w_high) (defScope s_w_high) [] [] f_w_high _ := ⟨⟨oc_w_high, od_w_high, .none, kV_w_high, dc_w_high, pm_w_high, an_w_high, cd_w_high, ct_w_high, sl_w_high, rfl, l_w_high, y_w_high, .inl ⟨rfl, rfl⟩, .inl rfl⟩, k_w_high⟩
  have F_w_due : FunD K "_law_due" "_law_due" (defArgs s_w_due) (defBody s_w_due) (defScope s_w_due) [] [] f_w_due _ := ⟨⟨oc_w_due, od_w_due, .none, kV_w_due, dc_w_due, pm_w_due, an_w_due, cd_w_due, ct_w_due, sl_w_due, rfl, l_w_due, y_w_due, .inl ⟨rfl, rfl⟩, .inl rfl⟩, k_w_due⟩
  have F_w_right : FunD K "_law_right" "_law_right" (defArgs s_w_right) (defBody s_w_right) (defScope s_w_right) [] [] f_w_right _ := ⟨⟨oc_w_right, od_w_right, .none, kV_w_right, dc_w_right, pm_w_right, an_w_right, cd_w_right, ct_w_right, sl_w_right, rfl, l_w_right, y_w_right, .inl ⟨rfl, rfl⟩, .inl rfl⟩, k_w_right⟩
  have F_law : FunD K "law" "law" (defArgs s_law) (defBody s_law) (defScope s_law) [] [] fa _ := ⟨⟨oc_law, od_law, .none, kV_law, dc_law, pm_law, an_law, cd_law, ct_law, sl_law, rfl, l_law, y_law, .inl ⟨rfl, rfl⟩, .inl rfl⟩, k_law⟩
  have G_PERCENT_CODE : GlC K mg "PERCENT_CODE" (.int 37) := ⟨_, (.int 37), PySem.W.mg_of X G g_PERCENT_CODE, ⟨_, rfl⟩, fun G => rp_i _⟩
  have G_MAX_ESCAPES : GlC K mg "MAX_ESCAPES" (.int 200) := ⟨_, (.int 200), PySem.W.mg_of X G g_MAX_ESCAPES, ⟨_, rfl⟩, fun G => rp_i _⟩
  have G_SPECIAL : GlC K mg "SPECIAL" (.tup [.str "\\", .str "\""]) := glc_tup (xs := ["\\", "\""]) (PySem.W.mg_of X G g_SPECIAL) gl_SPECIAL (.cons ⟨_, rfl⟩ (.cons ⟨_, rfl⟩ (.nil))) (show (2 : Nat) ≤ sizeLine by decide)
  have G_BACKSLASH : GlC K mg "BACKSLASH" (.str "\\") := ⟨_, (.str "\\"), PySem.W.mg_of X G g_BACKSLASH, ⟨_, rfl⟩, fun G => rp_s _⟩
  have G_QUOTE : GlC K mg "QUOTE" (.str "\"") := ⟨_, (.str "\""), PySem.W.mg_of X G g_QUOTE, ⟨_, rfl⟩, fun G => rp_s _⟩
  refine ⟨_, fun s v => F_law.bindsA (ps := ["_law_script"]) (fun _ _ _ _ _ _ us hl => match us, hl with | [_], _ => rfl) s [v] rfl, fun base kb nb hsys => ?_⟩
  have EC_SlashError : EC K "SlashError" C_SlashError := ⟨aC_SlashError, xb_SlashError, xv_SlashError, xs_SlashError, xt_SlashError, xh_SlashError, kc_SlashError, xg_SlashError, xr_SlashError, xc_SlashError, xo_SlashError⟩
  have EC_InvalidNumber : EC K "InvalidNumber" C_InvalidNumber := ⟨aC_InvalidNumber, xb_InvalidNumber, xv_InvalidNumber, xs_InvalidNumber, xt_InvalidNumber, xh_InvalidNumber, kc_InvalidNumber, xg_InvalidNumber, xr_InvalidNumber, xc_InvalidNumber, xo_InvalidNumber⟩
  have EC_InvalidHistory : EC K "InvalidHistory" C_InvalidHistory := ⟨aC_InvalidHistory, xb_InvalidHistory, xv_InvalidHistory, xs_InvalidHistory, xt_InvalidHistory, xh_InvalidHistory, kc_InvalidHistory, xg_InvalidHistory, xr_InvalidHistory, xc_InvalidHistory, xo_InvalidHistory⟩
  have EC_NoMove : EC K "NoMove" C_NoMove := ⟨aC_NoMove, xb_NoMove, xv_NoMove, xs_NoMove, xt_NoMove, xh_NoMove, kc_NoMove, xg_NoMove, xr_NoMove, xc_NoMove, xo_NoMove⟩
  have EX : ECs K := ⟨x_n, x_t⟩
  have HN_NoMove : HndC K mg "NoMove" cl_NoMove := ⟨C_NoMove, PySem.W.mg_of X G aC_NoMove, catch_cons (cat_ec EC_SlashError EC_NoMove u_SlashError_NoMove) (catch_cons (cat_ab z_NotEscaped) (catch_cons (cat_ab z_TooLong) (catch_cons (cat_ab z_Contradiction) (catch_cons (cat_ab z_ParseError) (catch_cons (cat_ab z_InvalidText) (catch_cons (cat_ab z_InvalidSymbols) (catch_cons (cat_ab z_InvalidPosition) (catch_cons (cat_ec EC_InvalidNumber EC_NoMove u_InvalidNumber_NoMove) (catch_cons (cat_ec EC_InvalidHistory EC_NoMove u_InvalidHistory_NoMove) (catch_cons (cat_ab z_InvalidScript) (catch_cons (cat_ab z_InvalidFacts) (catch_cons (cat_ec EC_NoMove EC_NoMove EC_NoMove.s) (catch_cons (cat_ab z_NothingToUndo) (catch_cons (cat_ab z_InvalidCommand) (catch_nil)))))))))))))))⟩
  have RA_InvalidHistory : RaiC K mg "InvalidHistory" := rai_ec EC_InvalidHistory (PySem.W.mg_of X G aC_InvalidHistory) xe_InvalidHistory
  have RA_InvalidNumber : RaiC K mg "InvalidNumber" := rai_ec EC_InvalidNumber (PySem.W.mg_of X G aC_InvalidNumber) xe_InvalidNumber
  have RA_NoMove : RaiC K mg "NoMove" := rai_ec EC_NoMove (PySem.W.mg_of X G aC_NoMove) xe_NoMove
  have W_is_integer := w_is_integer (P := P) (w := w) (base := base) B hsys F_is_integer    
  have D_is_integer := def_ofA 3 W_is_integer F_is_integer (PySem.W.mg_of X G a_is_integer) (by simp) rfl (fun _ _ _ _ _ _ _ us its hl hi => match us, hl, its, hi with | [_, _, _], _, [_], _ => ⟨_, rfl, rfl⟩)
  have D_is_integer1 := def_ofD (dds := [.non]) 2 W_is_integer F_is_integer (PySem.W.mg_of X G a_is_integer) (by simp) rfl (fun _ _ _ _ _ _ _ us its hl hi => match us, hl, its, hi with | [_, _], _, [_], _ => ⟨_, rfl, rfl⟩) (fun G => RpL.cons (show Rp K G .non .non from rp_non.mpr rfl) (RpL.nil))
  have W_is_symbol := w_is_symbol (P := P) (w := w) (base := base) B hsys F_is_symbol G_PERCENT_CODE   
  have D_is_symbol := def_of W_is_symbol F_is_symbol (PySem.W.mg_of X G a_is_symbol) (fun _ _ _ _ _ _ us hl => match us, hl with | [_], _ => rfl)
  have W_power_of_two := w_power_of_two (P := P) (w := w) (base := base) B hsys F_power_of_two    
  have D_power_of_two := def_of W_power_of_two F_power_of_two (PySem.W.mg_of X G a_power_of_two) (fun _ _ _ _ _ _ us hl => match us, hl with | [_], _ => rfl)
  have W_add_block := w_add_block (P := P) (w := w) (base := base) B hsys F_add_block    
  have D_add_block := def_of W_add_block F_add_block (PySem.W.mg_of X G a_add_block) (fun _ _ _ _ _ _ us hl => match us, hl with | [_, _, _, _], _ => rfl)
  have W_add_piece := w_add_piece (P := P) (w := w) (base := base) B hsys F_add_piece G_BACKSLASH   
  have D_add_piece := def_of W_add_piece F_add_piece (PySem.W.mg_of X G a_add_piece) (fun _ _ _ _ _ _ us hl => match us, hl with | [_, _, _, _], _ => rfl)
  have W_take := w_take (P := P) (w := w) (base := base) B hsys F_take    
  have D_take := def_of W_take F_take (PySem.W.mg_of X G a_take) (fun _ _ _ _ _ _ us hl => match us, hl with | [_, _], _ => rfl)
  have W_count_by := w_count_by (P := P) (w := w) (base := base) B hsys F_count_by    
  have D_count_by := def_of W_count_by F_count_by (PySem.W.mg_of X G a_count_by) (fun _ _ _ _ _ _ us hl => match us, hl with | [_], _ => rfl)
  have W_l_bag := w_l_bag (P := P) (w := w) (base := base) B hsys F_l_bag    
  have D_l_bag := def_of W_l_bag F_l_bag (PySem.W.mg_of X G a_l_bag) (fun _ _ _ _ _ _ us hl => match us, hl with | [_], _ => rfl)
  have W_l_stir := w_l_stir (P := P) (w := w) (base := base) B hsys F_l_stir    
  have D_l_stir := def_of W_l_stir F_l_stir (PySem.W.mg_of X G a_l_stir) (fun _ _ _ _ _ _ us hl => match us, hl with | [_, _], _ => rfl)
  have W_l_escaped := w_l_escaped (P := P) (w := w) (base := base) B hsys F_l_escaped    
  have D_l_escaped := def_of W_l_escaped F_l_escaped (PySem.W.mg_of X G a_l_escaped) (fun _ _ _ _ _ _ us hl => match us, hl with | [_, _], _ => rfl)
  have W_l_plains := w_l_plains (P := P) (w := w) (base := base) B hsys F_l_plains    
  have D_l_plains := def_of W_l_plains F_l_plains (PySem.W.mg_of X G a_l_plains) (fun _ _ _ _ _ _ us hl => match us, hl with | [], _ => rfl)
  have W_a_blocks := w_a_blocks (P := P) (w := w) (base := base) B hsys F_a_blocks    
  have D_a_blocks := def_of W_a_blocks F_a_blocks (PySem.W.mg_of X G a_a_blocks) (fun _ _ _ _ _ _ us hl => match us, hl with | [_], _ => rfl)
  have W_is_run := w_is_run (P := P) (w := w) (base := base) B hsys F_is_run  D_is_symbol D_is_integer1  
  have D_is_run := def_of W_is_run F_is_run (PySem.W.mg_of X G a_is_run) (fun _ _ _ _ _ _ us hl => match us, hl with | [_], _ => rfl)
  have W_width_of := w_width_of (P := P) (w := w) (base := base) B hsys F_width_of G_SPECIAL D_power_of_two  
  have D_width_of := def_of W_width_of F_width_of (PySem.W.mg_of X G a_width_of) (fun _ _ _ _ _ _ us hl => match us, hl with | [_, _], _ => rfl)
  have W_add_parts := w_add_parts (P := P) (w := w) (base := base) B hsys F_add_parts G_BACKSLASH G_QUOTE D_add_block  
  have D_add_parts := def_of W_add_parts F_add_parts (PySem.W.mg_of X G a_add_parts) (fun _ _ _ _ _ _ us hl => match us, hl with | [_, _, _], _ => rfl)
  have W_g_draw := w_g_draw (P := P) (w := w) (base := base) B hsys F_g_draw  D_l_stir  
  have D_g_draw := def_of W_g_draw F_g_draw (PySem.W.mg_of X G a_g_draw) (fun _ _ _ _ _ _ us hl => match us, hl with | [_, _], _ => rfl)
  have W_a_all := w_a_all (P := P) (w := w) (base := base) B hsys F_a_all  D_l_escaped  
  have D_a_all := def_of W_a_all F_a_all (PySem.W.mg_of X G a_a_all) (fun _ _ _ _ _ _ us hl => match us, hl with | [_, _], _ => rfl)
  have W_m_profile := w_m_profile (P := P) (w := w) (base := base) B hsys F_m_profile  D_l_escaped  
  have D_m_profile := def_of W_m_profile F_m_profile (PySem.W.mg_of X G a_m_profile) (fun _ _ _ _ _ _ us hl => match us, hl with | [_], _ => rfl)
  have W_w_due := w_w_due (P := P) (w := w) (base := base) B hsys F_w_due  D_a_blocks D_l_escaped  
  have D_w_due := def_of W_w_due F_w_due (PySem.W.mg_of X G a_w_due) (fun _ _ _ _ _ _ us hl => match us, hl with | [_, _, _, _], _ => rfl)
  have W_is_text := w_is_text (P := P) (w := w) (base := base) B hsys F_is_text  D_is_run  
  have D_is_text := def_of W_is_text F_is_text (PySem.W.mg_of X G a_is_text) (fun _ _ _ _ _ _ us hl => match us, hl with | [_], _ => rfl)
  have W_pieces_of := w_pieces_of (P := P) (w := w) (base := base) B hsys F_pieces_of G_BACKSLASH G_QUOTE D_add_piece D_width_of  
  have D_pieces_of := def_of W_pieces_of F_pieces_of (PySem.W.mg_of X G a_pieces_of) (fun _ _ _ _ _ _ us hl => match us, hl with | [_], _ => rfl)
  have W_numbered_by := w_numbered_by (P := P) (w := w) (base := base) B hsys F_numbered_by  D_width_of  
  have D_numbered_by := def_of W_numbered_by F_numbered_by (PySem.W.mg_of X G a_numbered_by) (fun _ _ _ _ _ _ us hl => match us, hl with | [_, _], _ => rfl)
  have W_stretches_of := w_stretches_of (P := P) (w := w) (base := base) B hsys F_stretches_of  D_width_of  
  have D_stretches_of := def_of W_stretches_of F_stretches_of (PySem.W.mg_of X G a_stretches_of) (fun _ _ _ _ _ _ us hl => match us, hl with | [_], _ => rfl)
  have W_blocks_with := w_blocks_with (P := P) (w := w) (base := base) B hsys F_blocks_with G_SPECIAL G_QUOTE D_take D_add_parts D_add_block D_power_of_two  
  have D_blocks_with := def_of W_blocks_with F_blocks_with (PySem.W.mg_of X G a_blocks_with) (fun _ _ _ _ _ _ us hl => match us, hl with | [_, _], _ => rfl)
  have W_l_shuffled := w_l_shuffled (P := P) (w := w) (base := base) B hsys F_l_shuffled  D_g_draw  
  have D_l_shuffled := def_of W_l_shuffled F_l_shuffled (PySem.W.mg_of X G a_l_shuffled) (fun _ _ _ _ _ _ us hl => match us, hl with | [_, _], _ => rfl)
  have W_l_either := w_l_either (P := P) (w := w) (base := base) B hsys F_l_either  D_g_draw  
  have D_l_either := def_of W_l_either F_l_either (PySem.W.mg_of X G a_l_either) (fun _ _ _ _ _ _ us hl => match us, hl with | [_, _], _ => rfl)
  have W_l_plain := w_l_plain (P := P) (w := w) (base := base) B hsys F_l_plain  D_l_plains D_g_draw  
  have D_l_plain := def_of W_l_plain F_l_plain (PySem.W.mg_of X G a_l_plain) (fun _ _ _ _ _ _ us hl => match us, hl with | [_], _ => rfl)
  have W_is_block := w_is_block (P := P) (w := w) (base := base) B hsys F_is_block G_MAX_ESCAPES D_is_integer D_is_integer1 D_is_text  
  have D_is_block := def_of W_is_block F_is_block (PySem.W.mg_of X G a_is_block) (fun _ _ _ _ _ _ us hl => match us, hl with | [_], _ => rfl)
  have W_with_level := w_with_level (P := P) (w := w) (base := base) B hsys F_with_level  D_stretches_of D_take D_blocks_with D_pieces_of  
  have D_with_level := def_of W_with_level F_with_level (PySem.W.mg_of X G a_with_level) (fun _ _ _ _ _ _ us hl => match us, hl with | [_, _, _, _], _ => rfl)
  have W_r_string := w_r_string (P := P) (w := w) (base := base) B hsys F_r_string  D_g_draw D_l_escaped D_l_plain  
  have D_r_string := def_of W_r_string F_r_string (PySem.W.mg_of X G a_r_string) (fun _ _ _ _ _ _ us hl => match us, hl with | [_, _], _ => rfl)
  have W_o_dressed := w_o_dressed (P := P) (w := w) (base := base) B hsys F_o_dressed  D_l_either  
  have D_o_dressed := def_of W_o_dressed F_o_dressed (PySem.W.mg_of X G a_o_dressed) (fun _ _ _ _ _ _ us hl => match us, hl with | [_, _], _ => rfl)
  have W_are_blocks := w_are_blocks (P := P) (w := w) (base := base) B hsys F_are_blocks  D_is_block  
  have D_are_blocks := def_of W_are_blocks F_are_blocks (PySem.W.mg_of X G a_are_blocks) (fun _ _ _ _ _ _ us hl => match us, hl with | [_], _ => rfl)
  have W_lowered_by := w_lowered_by (P := P) (w := w) (base := base) B hsys F_lowered_by  D_numbered_by D_with_level  
  have D_lowered_by := def_of W_lowered_by F_lowered_by (PySem.W.mg_of X G a_lowered_by) (fun _ _ _ _ _ _ us hl => match us, hl with | [_, _], _ => rfl)
  have W_raised_by := w_raised_by (P := P) (w := w) (base := base) B hsys F_raised_by G_MAX_ESCAPES G_QUOTE G_BACKSLASH G_SPECIAL D_numbered_by D_with_level  
  have D_raised_by := def_of W_raised_by F_raised_by (PySem.W.mg_of X G a_raised_by) (fun _ _ _ _ _ _ us hl => match us, hl with | [_, _], _ => rfl)
  have W_checked_blocks := w_checked_blocks (P := P) (w := w) (base := base) B hsys F_checked_blocks  D_are_blocks RA_InvalidHistory 
  have D_checked_blocks := def_of W_checked_blocks F_checked_blocks (PySem.W.mg_of X G a_checked_blocks) (fun _ _ _ _ _ _ us hl => match us, hl with | [_], _ => rfl)
  have W_checked_number := w_checked_number (P := P) (w := w) (base := base) B hsys F_checked_number  D_checked_blocks D_is_integer D_count_by RA_InvalidNumber 
  have D_checked_number := def_of W_checked_number F_checked_number (PySem.W.mg_of X G a_checked_number) (fun _ _ _ _ _ _ us hl => match us, hl with | [_, _], _ => rfl)
  have W_lowered := w_lowered (P := P) (w := w) (base := base) B hsys F_lowered  D_lowered_by D_checked_number RA_NoMove 
  have D_lowered := def_of W_lowered F_lowered (PySem.W.mg_of X G a_lowered) (fun _ _ _ _ _ _ us hl => match us, hl with | [_, _], _ => rfl)
  have W_raised := w_raised (P := P) (w := w) (base := base) B hsys F_raised  D_raised_by D_checked_number RA_NoMove 
  have D_raised := def_of W_raised F_raised (PySem.W.mg_of X G a_raised) (fun _ _ _ _ _ _ us hl => match us, hl with | [_, _], _ => rfl)
  have W_w_low := w_w_low (P := P) (w := w) (base := base) B hsys F_w_low  D_lowered HN_NoMove 
  have D_w_low := def_of W_w_low F_w_low (PySem.W.mg_of X G a_w_low) (fun _ _ _ _ _ _ us hl => match us, hl with | [_, _], _ => rfl)
  have W_w_high := w_w_high (P := P) (w := w) (base := base) B hsys F_w_high  D_raised HN_NoMove 
  have D_w_high := def_of W_w_high F_w_high (PySem.W.mg_of X G a_w_high) (fun _ _ _ _ _ _ us hl => match us, hl with | [_, _], _ => rfl)
  have W_w_right := w_w_right (P := P) (w := w) (base := base) B hsys F_w_right  D_a_all D_m_profile D_l_shuffled D_o_dressed D_a_blocks D_w_due D_w_low D_w_high  
  have D_w_right := def_of W_w_right F_w_right (PySem.W.mg_of X G a_w_right) (fun _ _ _ _ _ _ us hl => match us, hl with | [_, _, _], _ => rfl)
  exact w_law B hsys F_law  D_l_bag D_l_plains D_lowered D_raised D_w_right D_w_high D_r_string D_g_draw
end
end VS
open PySem PySem.W PyProof.Rows
set_option maxHeartbeats 0 in
theorem PySem.Challenge.cw_slashlevels_k29_moves_holds : PySem.Challenge.rw_slashlevels_k29_moves.Holds := by
  w_on; o_law; k_head; (case hw => w_witness2)
  k_fill
  refine VS.law_end (l := PySem.Challenge.rw_slashlevels_k29_moves) (k := 11) (x := "_law_script") rfl rfl ⟨rfl, by decide, by decide⟩ (by decide +kernel) (fun w h Y => PySem.W.kIn_of Y) ?F
  case F =>
    intro w mg fa h KX G hmg
    refine' VS.all_mk KX G hmg ?z_NotEscaped ?z_TooLong ?z_Contradiction ?z_ParseError ?z_InvalidText ?z_InvalidSymbols ?z_InvalidPosition ?z_InvalidScript ?z_InvalidFacts ?z_NothingToUndo ?z_InvalidCommand ?aC_SlashError ?xb_SlashError ?xv_SlashError ?xs_SlashError ?xt_SlashError ?xh_SlashError ?kc_SlashError ?xg_SlashError ?xr_SlashError ?xc_SlashError ?xo_SlashError ?aC_InvalidNumber ?xb_InvalidNumber ?xv_InvalidNumber ?xs_InvalidNumber ?xt_InvalidNumber ?xh_InvalidNumber ?kc_InvalidNumber ?xg_InvalidNumber ?xr_InvalidNumber ?xc_InvalidNumber ?xo_InvalidNumber ?aC_InvalidHistory ?xb_InvalidHistory ?xv_InvalidHistory ?xs_InvalidHistory ?xt_InvalidHistory ?xh_InvalidHistory ?kc_InvalidHistory ?xg_InvalidHistory ?xr_InvalidHistory ?xc_InvalidHistory ?xo_InvalidHistory ?aC_NoMove ?xb_NoMove ?xv_NoMove ?xs_NoMove ?xt_NoMove ?xh_NoMove ?kc_NoMove ?xg_NoMove ?xr_NoMove ?xc_NoMove ?xo_NoMove ?x_n ?x_t ?u_SlashError_NoMove ?u_InvalidNumber_NoMove ?u_InvalidHistory_NoMove ?xe_InvalidHistory ?xe_InvalidNumber ?xe_NoMove ?a_is_integer ?l_is_integer ?y_is_integer ?k_is_integer ?t_is_integer ?a_is_symbol ?l_is_symbol ?y_is_symbol ?k_is_symbol ?a_is_run ?l_is_run ?y_is_run ?k_is_run ?a_is_text ?l_is_text ?y_is_text ?k_is_text ?a_power_of_two ?l_power_of_two ?y_power_of_two ?k_power_of_two ?a_add_block ?l_add_block ?y_add_block ?k_add_block ?a_is_block ?l_is_block ?y_is_block ?k_is_block ?a_are_blocks ?l_are_blocks ?y_are_blocks ?k_are_blocks ?a_checked_blocks ?l_checked_blocks ?y_checked_blocks ?k_checked_blocks ?a_width_of ?l_width_of ?y_width_of ?k_width_of ?a_add_piece ?l_add_piece ?y_add_piece ?k_add_piece ?a_pieces_of ?l_pieces_of ?y_pieces_of ?k_pieces_of ?a_add_parts ?l_add_parts ?y_add_parts ?k_add_parts ?a_numbered_by ?l_numbered_by ?y_numbered_by ?k_numbered_by ?a_stretches_of ?l_stretches_of ?y_stretches_of ?k_stretches_of ?a_take ?l_take ?y_take ?k_take ?a_blocks_with ?l_blocks_with ?y_blocks_with ?k_blocks_with ?a_count_by ?l_count_by ?y_count_by ?k_count_by ?a_with_level ?l_with_level ?y_with_level ?k_with_level ?a_lowered_by ?l_lowered_by ?y_lowered_by ?k_lowered_by ?a_raised_by ?l_raised_by ?y_raised_by ?k_raised_by ?a_checked_number ?l_checked_number ?y_checked_number ?k_checked_number ?a_lowered ?l_lowered ?y_lowered ?k_lowered ?a_raised ?l_raised ?y_raised ?k_raised ?a_l_bag ?l_l_bag ?y_l_bag ?k_l_bag ?a_l_stir ?l_l_stir ?y_l_stir ?k_l_stir ?a_g_draw ?l_g_draw ?y_g_draw ?k_g_draw ?a_l_shuffled ?l_l_shuffled ?y_l_shuffled ?k_l_shuffled ?a_l_either ?l_l_either ?y_l_either ?k_l_either ?a_l_escaped ?l_l_escaped ?y_l_escaped ?k_l_escaped ?a_l_plains ?l_l_plains ?y_l_plains ?k_l_plains ?a_l_plain ?l_l_plain ?y_l_plain ?k_l_plain ?a_r_string ?l_r_string ?y_r_string ?k_r_string ?a_a_all ?l_a_all ?y_a_all ?k_a_all ?a_a_blocks ?l_a_blocks ?y_a_blocks ?k_a_blocks ?a_m_profile ?l_m_profile ?y_m_profile ?k_m_profile ?a_o_dressed ?l_o_dressed ?y_o_dressed ?k_o_dressed ?a_w_low ?l_w_low ?y_w_low ?k_w_low ?a_w_high ?l_w_high ?y_w_high ?k_w_high ?a_w_due ?l_w_due ?y_w_due ?k_w_due ?a_w_right ?l_w_right ?y_w_right ?k_w_right ?a_law ?l_law ?y_law ?k_law ?g_PERCENT_CODE ?g_MAX_ESCAPES ?g_SPECIAL ?gl_SPECIAL ?g_BACKSLASH ?g_QUOTE ?z_all ?z_bool ?z_enumerate ?z_int ?z_isinstance ?z_len ?z_list ?z_min ?z_ord ?z_range ?z_repr ?z_set ?z_sorted ?z_str ?z_sum ?z_tuple ?z_zip
    (case z_NotEscaped => k_is)
    (case z_TooLong => k_is)
    (case z_Contradiction => k_is)
    (case z_ParseError => k_is)
    (case z_InvalidText => k_is)
    (case z_InvalidSymbols => k_is)
    (case z_InvalidPosition => k_is)
    (case z_InvalidScript => k_is)
    (case z_InvalidFacts => k_is)
    (case z_NothingToUndo => k_is)
    (case z_InvalidCommand => k_is)
    (case aC_SlashError => k_is)
    (case xb_SlashError => k_is)
    (case xv_SlashError => k_is)
    (case xs_SlashError => k_is)
    (case xt_SlashError => k_is)
    (case xh_SlashError => k_is)
    (case kc_SlashError => k_is)
    (case xg_SlashError => k_is)
    (case xr_SlashError => k_is)
    (case xc_SlashError => k_is)
    (case xo_SlashError => k_is)
    (case aC_InvalidNumber => k_is)
    (case xb_InvalidNumber => k_is)
    (case xv_InvalidNumber => k_is)
    (case xs_InvalidNumber => k_is)
    (case xt_InvalidNumber => k_is)
    (case xh_InvalidNumber => k_is)
    (case kc_InvalidNumber => k_is)
    (case xg_InvalidNumber => k_is)
    (case xr_InvalidNumber => k_is)
    (case xc_InvalidNumber => k_is)
    (case xo_InvalidNumber => k_is)
    (case aC_InvalidHistory => k_is)
    (case xb_InvalidHistory => k_is)
    (case xv_InvalidHistory => k_is)
    (case xs_InvalidHistory => k_is)
    (case xt_InvalidHistory => k_is)
    (case xh_InvalidHistory => k_is)
    (case kc_InvalidHistory => k_is)
    (case xg_InvalidHistory => k_is)
    (case xr_InvalidHistory => k_is)
    (case xc_InvalidHistory => k_is)
    (case xo_InvalidHistory => k_is)
    (case aC_NoMove => k_is)
    (case xb_NoMove => k_is)
    (case xv_NoMove => k_is)
    (case xs_NoMove => k_is)
    (case xt_NoMove => k_is)
    (case xh_NoMove => k_is)
    (case kc_NoMove => k_is)
    (case xg_NoMove => k_is)
    (case xr_NoMove => k_is)
    (case xc_NoMove => k_is)
    (case xo_NoMove => k_is)
    (case x_n => k_is)
    (case x_t => k_is)
    (case u_SlashError_NoMove => k_is)
    (case u_InvalidNumber_NoMove => k_is)
    (case u_InvalidHistory_NoMove => k_is)
    (case xe_InvalidHistory => k_exc)
    (case xe_InvalidNumber => k_exc)
    (case xe_NoMove => k_exc)
    (case a_is_integer => k_is)
    (case l_is_integer => k_is)
    (case y_is_integer => k_is)
    (case k_is_integer => k_is)
    (case t_is_integer => k_is)
    (case a_is_symbol => k_is)
    (case l_is_symbol => k_is)
    (case y_is_symbol => k_is)
    (case k_is_symbol => k_is)
    (case a_is_run => k_is)
    (case l_is_run => k_is)
    (case y_is_run => k_is)
    (case k_is_run => k_is)
    (case a_is_text => k_is)
    (case l_is_text => k_is)
    (case y_is_text => k_is)
    (case k_is_text => k_is)
    (case a_power_of_two => k_is)
    (case l_power_of_two => k_is)
    (case y_power_of_two => k_is)
    (case k_power_of_two => k_is)
    (case a_add_block => k_is)
    (case l_add_block => k_is)
    (case y_add_block => k_is)
    (case k_add_block => k_is)
    (case a_is_block => k_is)
    (case l_is_block => k_is)
    (case y_is_block => k_is)
    (case k_is_block => k_is)
    (case a_are_blocks => k_is)
    (case l_are_blocks => k_is)
    (case y_are_blocks => k_is)
    (case k_are_blocks => k_is)
    (case a_checked_blocks => k_is)
    (case l_checked_blocks => k_is)
    (case y_checked_blocks => k_is)
    (case k_checked_blocks => k_is)
    (case a_width_of => k_is)
    (case l_width_of => k_is)
    (case y_width_of => k_is)
    (case k_width_of => k_is)
    (case a_add_piece => k_is)
    (case l_add_piece => k_is)
    (case y_add_piece => k_is)
    (case k_add_piece => k_is)
    (case a_pieces_of => k_is)
    (case l_pieces_of => k_is)
    (case y_pieces_of => k_is)
    (case k_pieces_of => k_is)
    (case a_add_parts => k_is)
    (case l_add_parts => k_is)
    (case y_add_parts => k_is)
    (case k_add_parts => k_is)
    (case a_numbered_by => k_is)
    (case l_numbered_by => k_is)
    (case y_numbered_by => k_is)
    (case k_numbered_by => k_is)
    (case a_stretches_of => k_is)
    (case l_stretches_of => k_is)
    (case y_stretches_of => k_is)
    (case k_stretches_of => k_is)
    (case a_take => k_is)
    (case l_take => k_is)
    (case y_take => k_is)
    (case k_take => k_is)
    (case a_blocks_with => k_is)
    (case l_blocks_with => k_is)
    (case y_blocks_with => k_is)
    (case k_blocks_with => k_is)
    (case a_count_by => k_is)
    (case l_count_by => k_is)
    (case y_count_by => k_is)
    (case k_count_by => k_is)
    (case a_with_level => k_is)
    (case l_with_level => k_is)
    (case y_with_level => k_is)
    (case k_with_level => k_is)
    (case a_lowered_by => k_is)
    (case l_lowered_by => k_is)
    (case y_lowered_by => k_is)
    (case k_lowered_by => k_is)
    (case a_raised_by => k_is)
    (case l_raised_by => k_is)
    (case y_raised_by => k_is)
    (case k_raised_by => k_is)
    (case a_checked_number => k_is)
    (case l_checked_number => k_is)
    (case y_checked_number => k_is)
    (case k_checked_number => k_is)
    (case a_lowered => k_is)
    (case l_lowered => k_is)
    (case y_lowered => k_is)
    (case k_lowered => k_is)
    (case a_raised => k_is)
    (case l_raised => k_is)
    (case y_raised => k_is)
    (case k_raised => k_is)
    (case a_l_bag => k_is)
    (case l_l_bag => k_is)
    (case y_l_bag => k_is)
    (case k_l_bag => k_is)
    (case a_l_stir => k_is)
    (case l_l_stir => k_is)
    (case y_l_stir => k_is)
    (case k_l_stir => k_is)
    (case a_g_draw => k_is)
    (case l_g_draw => k_is)
    (case y_g_draw => k_is)
    (case k_g_draw => k_is)
    (case a_l_shuffled => k_is)
    (case l_l_shuffled => k_is)
    (case y_l_shuffled => k_is)
    (case k_l_shuffled => k_is)
    (case a_l_either => k_is)
    (case l_l_either => k_is)
    (case y_l_either => k_is)
    (case k_l_either => k_is)
    (case a_l_escaped => k_is)
    (case l_l_escaped => k_is)
    (case y_l_escaped => k_is)
    (case k_l_escaped => k_is)
    (case a_l_plains => k_is)
    (case l_l_plains => k_is)
    (case y_l_plains => k_is)
    (case k_l_plains => k_is)
    (case a_l_plain => k_is)
    (case l_l_plain => k_is)
    (case y_l_plain => k_is)
    (case k_l_plain => k_is)
    (case a_r_string => k_is)
    (case l_r_string => k_is)
    (case y_r_string => k_is)
    (case k_r_string => k_is)
    (case a_a_all => k_is)
    (case l_a_all => k_is)
    (case y_a_all => k_is)
    (case k_a_all => k_is)
    (case a_a_blocks => k_is)
    (case l_a_blocks => k_is)
    (case y_a_blocks => k_is)
    (case k_a_blocks => k_is)
    (case a_m_profile => k_is)
    (case l_m_profile => k_is)
    (case y_m_profile => k_is)
    (case k_m_profile => k_is)
    (case a_o_dressed => k_is)
    (case l_o_dressed => k_is)
    (case y_o_dressed => k_is)
    (case k_o_dressed => k_is)
    (case a_w_low => k_is)
    (case l_w_low => k_is)
    (case y_w_low => k_is)
    (case k_w_low => k_is)
    (case a_w_high => k_is)
    (case l_w_high => k_is)
    (case y_w_high => k_is)
    (case k_w_high => k_is)
    (case a_w_due => k_is)
    (case l_w_due => k_is)
    (case y_w_due => k_is)
    (case k_w_due => k_is)
    (case a_w_right => k_is)
    (case l_w_right => k_is)
    (case y_w_right => k_is)
    (case k_w_right => k_is)
    (case a_law => k_is)
    (case l_law => k_is)
    (case y_law => k_is)
    (case k_law => k_is)
    (case g_PERCENT_CODE => k_is)
    (case g_MAX_ESCAPES => k_is)
    (case g_SPECIAL => k_is)
    (case gl_SPECIAL => k_is)
    (case g_BACKSLASH => k_is)
    (case g_QUOTE => k_is)
    (case z_all => k_is)
    (case z_bool => k_is)
    (case z_enumerate => k_is)
    (case z_int => k_is)
    (case z_isinstance => k_is)
    (case z_len => k_is)
    (case z_list => k_is)
    (case z_min => k_is)
    (case z_ord => k_is)
    (case z_range => k_is)
    (case z_repr => k_is)
    (case z_set => k_is)
    (case z_sorted => k_is)
    (case z_str => k_is)
    (case z_sum => k_is)
    (case z_tuple => k_is)
    (case z_zip => k_is)
