/- Part 3 of the proof: texts one behind the other. -/
import Derived.Test.YtmhmeppocbcmeaaGreatM2
import Derived.Test.YtmhmeppocbcmeaaGreatProg
import Derived.KernelRfl
import Derived.Laws.Small
/- Facts of the types and functions of this seat, each by computation. -/
set_option linter.unusedVariables false
namespace Go.Proofs.YtmhmeppocbcmeaaGreat
open Go Go.Wt
theorem ty129 : TyOk Tryz.prog 129 (Rd) := ⟨by kernel_rfl⟩
theorem ty143 : TyOk Tryz.prog 143 (Itm) := ⟨by kernel_rfl⟩
theorem ty22 : TyOk Tryz.prog 22 (List UInt8) := ⟨by kernel_rfl⟩
theorem ty23 : TyOk Tryz.prog 23 (List Nod) := ⟨by kernel_rfl⟩
theorem ty23_ListNod : TyOk Tryz.prog 23 (List Nod) := ⟨by kernel_rfl⟩
theorem ty23_NRef : TyOk Tryz.prog 23 (NRef) := ⟨by kernel_rfl⟩
theorem ty24 : TyOk Tryz.prog 24 (List Vote) := ⟨by kernel_rfl⟩
theorem ty24_HListVote : TyOk Tryz.prog 24 (HList Vote) := ⟨by kernel_rfl⟩
theorem ty24_OListVote : TyOk Tryz.prog 24 (OList Vote) := ⟨by kernel_rfl⟩
theorem ty26 : TyOk Tryz.prog 26 (Wrld) := ⟨by kernel_rfl⟩
theorem ty26_Wrld : TyOk Tryz.prog 26 (Wrld) := ⟨by kernel_rfl⟩
theorem ty26_WrldH : TyOk Tryz.prog 26 (WrldH) := ⟨by kernel_rfl⟩
theorem ty26_WrldS : TyOk Tryz.prog 26 (WrldS) := ⟨by kernel_rfl⟩
theorem ty27 : TyOk Tryz.prog 27 (List Itm) := ⟨by kernel_rfl⟩
theorem ty28 : TyOk Tryz.prog 28 (List (List Int)) := ⟨by kernel_rfl⟩
theorem ty28_NRef : TyOk Tryz.prog 28 (NRef) := ⟨by kernel_rfl⟩
theorem ty3 : TyOk Tryz.prog 3 (Int) := ⟨by kernel_rfl⟩
theorem ty30 : TyOk Tryz.prog 30 (Cert) := ⟨by kernel_rfl⟩
theorem ty30_Cert : TyOk Tryz.prog 30 (Cert) := ⟨by kernel_rfl⟩
theorem ty30_CertN : TyOk Tryz.prog 30 (CertN) := ⟨by kernel_rfl⟩
theorem ty38 : TyOk Tryz.prog 38 (Vote) := ⟨by kernel_rfl⟩
theorem ty38_Vote : TyOk Tryz.prog 38 (Vote) := ⟨by kernel_rfl⟩
theorem ty5 : TyOk Tryz.prog 5 (UInt8) := ⟨by kernel_rfl⟩
theorem ty75 : TyOk Tryz.prog 75 (Pay) := ⟨by kernel_rfl⟩
theorem ty77 : TyOk Tryz.prog 77 (Evt) := ⟨by kernel_rfl⟩
theorem ty90 : TyOk Tryz.prog 90 (Nod) := ⟨by kernel_rfl⟩
theorem ty90_NodC : TyOk Tryz.prog 90 (NodC) := ⟨by kernel_rfl⟩
theorem ty90_NodH : TyOk Tryz.prog 90 (NodH) := ⟨by kernel_rfl⟩
theorem ty90_NodR : TyOk Tryz.prog 90 (NodR) := ⟨by kernel_rfl⟩
theorem ty90_NodS : TyOk Tryz.prog 90 (NodS) := ⟨by kernel_rfl⟩
theorem ty93 : TyOk Tryz.prog 93 (List Int) := ⟨by kernel_rfl⟩
theorem z129 : ZeroOk Tryz.prog 129 Rd.zero := zero_mk (by kernel_rfl)
theorem z143 : ZeroOk Tryz.prog 143 Itm.zero := zero_mk (by kernel_rfl)
theorem z26 : ZeroOk Tryz.prog 26 Wrld.zero := zero_mk (by kernel_rfl)
theorem z26_WrldH : ZeroOk Tryz.prog 26 WrldH.zero := zero_mk (by kernel_rfl)
theorem z26_WrldS : ZeroOk Tryz.prog 26 WrldS.zero := zero_mk (by kernel_rfl)
theorem z27 : ZeroOk Tryz.prog 27 ([] : List Itm) := zero_mk (by kernel_rfl)
theorem z3 : ZeroOk Tryz.prog 3 (0 : Int) := zero_mk (by kernel_rfl)
theorem z30 : ZeroOk Tryz.prog 30 Cert.zero := zero_mk (by kernel_rfl)
theorem z30_CertN : ZeroOk Tryz.prog 30 CertN.zero := zero_mk (by kernel_rfl)
theorem z38 : ZeroOk Tryz.prog 38 Vote.zero := zero_mk (by kernel_rfl)
theorem z75 : ZeroOk Tryz.prog 75 Pay.zero := zero_mk (by kernel_rfl)
theorem z77 : ZeroOk Tryz.prog 77 Evt.zero := zero_mk (by kernel_rfl)
theorem z90 : ZeroOk Tryz.prog 90 Nod.zero := zero_mk (by kernel_rfl)
theorem z90_NodC : ZeroOk Tryz.prog 90 NodC.zero := zero_mk (by kernel_rfl)
theorem z90_NodR : ZeroOk Tryz.prog 90 NodR.zero := zero_mk (by kernel_rfl)
theorem z90_NodS : ZeroOk Tryz.prog 90 NodS.zero := zero_mk (by kernel_rfl)
theorem z93 : ZeroOk Tryz.prog 93 ([] : List Int) := zero_mk (by kernel_rfl)
theorem f129_0 : FldOk Tryz.prog 129 0 Rd.b (fun x y => { x with b := y }) 0 [0] := ⟨Rd.l0, by kernel_rfl⟩
theorem f129_1 : FldOk Tryz.prog 129 1 Rd.p (fun x y => { x with p := y }) 1 [1] := ⟨Rd.l1, by kernel_rfl⟩
theorem f143_0 : FldOk Tryz.prog 143 0 Itm.epoch (fun x y => { x with epoch := y }) 0 [0] := ⟨Itm.l0, by kernel_rfl⟩
theorem f143_1 : FldOk Tryz.prog 143 1 Itm.pay (fun x y => { x with pay := y }) 1 [1] := ⟨Itm.l1, by kernel_rfl⟩
theorem f26_0 : FldOk Tryz.prog 26 0 Wrld.epoch (fun x y => { x with epoch := y }) 0 [0] := ⟨Wrld.l0, by kernel_rfl⟩
theorem f26_0_Wrld : FldOk Tryz.prog 26 0 Wrld.epoch (fun x y => { x with epoch := y }) 0 [0] := ⟨Wrld.l0, by kernel_rfl⟩
theorem f26_0_WrldH : FldOk Tryz.prog 26 0 WrldH.epoch (fun x y => { x with epoch := y }) 0 [0] := ⟨WrldH.l0, by kernel_rfl⟩
theorem f26_0_WrldS : FldOk Tryz.prog 26 0 WrldS.epoch (fun x y => { x with epoch := y }) 0 [0] := ⟨WrldS.l0, by kernel_rfl⟩
theorem f26_1 : FldOk Tryz.prog 26 1 Wrld.nodes (fun x y => { x with nodes := y }) 1 [1, 0] := ⟨Wrld.l1, by kernel_rfl⟩
theorem f26_1_Wrld : FldOk Tryz.prog 26 1 Wrld.nodes (fun x y => { x with nodes := y }) 1 [1, 0] := ⟨Wrld.l1, by kernel_rfl⟩
theorem f26_1_WrldS : FldOk Tryz.prog 26 1 WrldS.nodes (fun x y => { x with nodes := y }) 1 [1, 0] := ⟨WrldS.l1, by kernel_rfl⟩
theorem f26_2 : FldOk Tryz.prog 26 2 Wrld.log (fun x y => { x with log := y }) 2 [1, 1, 0] := ⟨Wrld.l2, by kernel_rfl⟩
theorem f26_2_WrldH : FldOk Tryz.prog 26 2 WrldH.log (fun x y => { x with log := y }) 2 [1, 1, 0] := ⟨WrldH.l2, by kernel_rfl⟩
theorem f26_2_WrldS : FldOk Tryz.prog 26 2 WrldS.log (fun x y => { x with log := y }) 2 [1, 1, 0] := ⟨WrldS.l2, by kernel_rfl⟩
theorem f26_3 : FldOk Tryz.prog 26 3 Wrld.bad (fun x y => { x with bad := y }) 3 [1, 1, 1] := ⟨Wrld.l3, by kernel_rfl⟩
theorem f26_3_Wrld : FldOk Tryz.prog 26 3 Wrld.bad (fun x y => { x with bad := y }) 3 [1, 1, 1] := ⟨Wrld.l3, by kernel_rfl⟩
theorem f26_3_WrldH : FldOk Tryz.prog 26 3 WrldH.bad (fun x y => { x with bad := y }) 3 [1, 1, 1] := ⟨WrldH.l3, by kernel_rfl⟩
theorem f26_3_WrldS : FldOk Tryz.prog 26 3 WrldS.bad (fun x y => { x with bad := y }) 3 [1, 1, 1] := ⟨WrldS.l3, by kernel_rfl⟩
theorem f30_0 : FldOk Tryz.prog 30 0 Cert.chain (fun x y => { x with chain := y }) 0 [0] := ⟨Cert.l0, by kernel_rfl⟩
theorem f30_0_CertN : FldOk Tryz.prog 30 0 CertN.chain (fun x y => { x with chain := y }) 0 [0] := ⟨CertN.l0, by kernel_rfl⟩
theorem f30_1 : FldOk Tryz.prog 30 1 Cert.by_ (fun x y => { x with by_ := y }) 1 [1] := ⟨Cert.l1, by kernel_rfl⟩
theorem f30_1_CertN : FldOk Tryz.prog 30 1 CertN.by_ (fun x y => { x with by_ := y }) 1 [1] := ⟨CertN.l1, by kernel_rfl⟩
theorem f38_0 : FldOk Tryz.prog 38 0 Vote.by_ (fun x y => { x with by_ := y }) 0 [0] := ⟨Vote.l0, by kernel_rfl⟩
theorem f38_1 : FldOk Tryz.prog 38 1 Vote.chain (fun x y => { x with chain := y }) 1 [1] := ⟨Vote.l1, by kernel_rfl⟩
theorem f75_0 : FldOk Tryz.prog 75 0 Pay.frm (fun x y => { x with frm := y }) 0 [0] := ⟨Pay.l0, by kernel_rfl⟩
theorem f75_1 : FldOk Tryz.prog 75 1 Pay.to (fun x y => { x with to := y }) 1 [1, 0] := ⟨Pay.l1, by kernel_rfl⟩
theorem f75_2 : FldOk Tryz.prog 75 2 Pay.sum (fun x y => { x with sum := y }) 2 [1, 1] := ⟨Pay.l2, by kernel_rfl⟩
theorem f77_0 : FldOk Tryz.prog 77 0 Evt.kind (fun x y => { x with kind := y }) 0 [0] := ⟨Evt.l0, by kernel_rfl⟩
theorem f77_1 : FldOk Tryz.prog 77 1 Evt.a (fun x y => { x with a := y }) 1 [1, 0] := ⟨Evt.l1, by kernel_rfl⟩
theorem f77_2 : FldOk Tryz.prog 77 2 Evt.b (fun x y => { x with b := y }) 2 [1, 1, 0] := ⟨Evt.l2, by kernel_rfl⟩
theorem f77_3 : FldOk Tryz.prog 77 3 Evt.pay (fun x y => { x with pay := y }) 3 [1, 1, 1, 0] := ⟨Evt.l3, by kernel_rfl⟩
theorem f77_4 : FldOk Tryz.prog 77 4 Evt.vote (fun x y => { x with vote := y }) 6 [1, 1, 1, 1] := ⟨Evt.l4, by kernel_rfl⟩
theorem f90_0 : FldOk Tryz.prog 90 0 Nod.id (fun x y => { x with id := y }) 0 [0] := ⟨Nod.l0, by kernel_rfl⟩
theorem f90_0_NodC : FldOk Tryz.prog 90 0 NodC.id (fun x y => { x with id := y }) 0 [0] := ⟨NodC.l0, by kernel_rfl⟩
theorem f90_0_NodS : FldOk Tryz.prog 90 0 NodS.id (fun x y => { x with id := y }) 0 [0] := ⟨NodS.l0, by kernel_rfl⟩
theorem f90_1 : FldOk Tryz.prog 90 1 Nod.epoch (fun x y => { x with epoch := y }) 1 [1, 0] := ⟨Nod.l1, by kernel_rfl⟩
theorem f90_1_NodS : FldOk Tryz.prog 90 1 NodS.epoch (fun x y => { x with epoch := y }) 1 [1, 0] := ⟨NodS.l1, by kernel_rfl⟩
theorem f90_2 : FldOk Tryz.prog 90 2 Nod.voted (fun x y => { x with voted := y }) 2 [1, 1, 0] := ⟨Nod.l2, by kernel_rfl⟩
theorem f90_2_NodS : FldOk Tryz.prog 90 2 NodS.voted (fun x y => { x with voted := y }) 2 [1, 1, 0] := ⟨NodS.l2, by kernel_rfl⟩
theorem f90_3 : FldOk Tryz.prog 90 3 Nod.seen (fun x y => { x with seen := y }) 3 [1, 1, 1] := ⟨Nod.l3, by kernel_rfl⟩
theorem f90_3_NodC : FldOk Tryz.prog 90 3 NodC.seen (fun x y => { x with seen := y }) 3 [1, 1, 1] := ⟨NodC.l3, by kernel_rfl⟩
theorem f90_3_NodH : FldOk Tryz.prog 90 3 NodH.seen (fun x y => { x with seen := y }) 3 [1, 1, 1] := ⟨NodH.l3, by kernel_rfl⟩
theorem f90_3_NodS : FldOk Tryz.prog 90 3 NodS.seen (fun x y => { x with seen := y }) 3 [1, 1, 1] := ⟨NodS.l3, by kernel_rfl⟩
theorem sl133 : SlOk Tryz.prog 133 27 24 (List Itm) := ⟨by kernel_rfl, ty27⟩
theorem sl141_Vote : SlOk Tryz.prog 141 38 32 (Vote) := ⟨by kernel_rfl, ty38_Vote⟩
theorem sl22 : SlOk Tryz.prog 22 5 1 (UInt8) := ⟨by kernel_rfl, ty5⟩
theorem sl23 : SlOk Tryz.prog 23 90 48 (Nod) := ⟨by kernel_rfl, ty90⟩
theorem sl23_NodC : SlOk Tryz.prog 23 90 48 (NodC) := ⟨by kernel_rfl, ty90_NodC⟩
theorem sl23_NodS : SlOk Tryz.prog 23 90 48 (NodS) := ⟨by kernel_rfl, ty90_NodS⟩
theorem sl24 : SlOk Tryz.prog 24 38 32 (Vote) := ⟨by kernel_rfl, ty38⟩
theorem sl24_Vote : SlOk Tryz.prog 24 38 32 (Vote) := ⟨by kernel_rfl, ty38_Vote⟩
theorem sl27 : SlOk Tryz.prog 27 143 32 (Itm) := ⟨by kernel_rfl, ty143⟩
theorem sl28 : SlOk Tryz.prog 28 93 24 (List Int) := ⟨by kernel_rfl, ty93⟩
theorem sl45 : SlOk Tryz.prog 45 77 80 (Evt) := ⟨by kernel_rfl, ty77⟩
theorem sl61 : SlOk Tryz.prog 61 75 24 (Pay) := ⟨by kernel_rfl, ty75⟩
theorem sl93 : SlOk Tryz.prog 93 3 8 (Int) := ⟨by kernel_rfl, ty3⟩
theorem fb10 : fnB Tryz.prog 10 = true := by kernel_rfl
theorem fb100 : fnB Tryz.prog 100 = true := by kernel_rfl
theorem fb101 : fnB Tryz.prog 101 = true := by kernel_rfl
theorem fb102 : fnB Tryz.prog 102 = true := by kernel_rfl
theorem fb103 : fnB Tryz.prog 103 = true := by kernel_rfl
theorem fb104 : fnB Tryz.prog 104 = true := by kernel_rfl
theorem fb105 : fnB Tryz.prog 105 = true := by kernel_rfl
theorem fb106 : fnB Tryz.prog 106 = true := by kernel_rfl
theorem fb107 : fnB Tryz.prog 107 = true := by kernel_rfl
theorem fb108 : fnB Tryz.prog 108 = true := by kernel_rfl
theorem fb109 : fnB Tryz.prog 109 = true := by kernel_rfl
theorem fb11 : fnB Tryz.prog 11 = true := by kernel_rfl
theorem fb110 : fnB Tryz.prog 110 = true := by kernel_rfl
theorem fb111 : fnB Tryz.prog 111 = true := by kernel_rfl
theorem fb112 : fnB Tryz.prog 112 = true := by kernel_rfl
theorem fb113 : fnB Tryz.prog 113 = true := by kernel_rfl
theorem fb114 : fnB Tryz.prog 114 = true := by kernel_rfl
theorem fb115 : fnB Tryz.prog 115 = true := by kernel_rfl
theorem fb116 : fnB Tryz.prog 116 = true := by kernel_rfl
theorem fb117 : fnB Tryz.prog 117 = true := by kernel_rfl
theorem fb118 : fnB Tryz.prog 118 = true := by kernel_rfl
theorem fb12 : fnB Tryz.prog 12 = true := by kernel_rfl
theorem fb122 : fnB Tryz.prog 122 = true := by kernel_rfl
theorem fb129 : fnB Tryz.prog 129 = true := by kernel_rfl
theorem fb13 : fnB Tryz.prog 13 = true := by kernel_rfl
theorem fb130 : fnB Tryz.prog 130 = true := by kernel_rfl
theorem fb131 : fnB Tryz.prog 131 = true := by kernel_rfl
theorem fb132 : fnB Tryz.prog 132 = true := by kernel_rfl
theorem fb133 : fnB Tryz.prog 133 = true := by kernel_rfl
theorem fb134 : fnB Tryz.prog 134 = true := by kernel_rfl
theorem fb141 : fnB Tryz.prog 141 = true := by kernel_rfl
theorem fb142 : fnB Tryz.prog 142 = true := by kernel_rfl
theorem fb143 : fnB Tryz.prog 143 = true := by kernel_rfl
theorem fb144 : fnB Tryz.prog 144 = true := by kernel_rfl
theorem fb145 : fnB Tryz.prog 145 = true := by kernel_rfl
theorem fb146 : fnB Tryz.prog 146 = true := by kernel_rfl
theorem fb147 : fnB Tryz.prog 147 = true := by kernel_rfl
theorem fb148 : fnB Tryz.prog 148 = true := by kernel_rfl
theorem fb149 : fnB Tryz.prog 149 = true := by kernel_rfl
theorem fb150 : fnB Tryz.prog 150 = true := by kernel_rfl
theorem fb151 : fnB Tryz.prog 151 = true := by kernel_rfl
theorem fb152 : fnB Tryz.prog 152 = true := by kernel_rfl
theorem fb153 : fnB Tryz.prog 153 = true := by kernel_rfl
theorem fb160 : fnB Tryz.prog 160 = true := by kernel_rfl
theorem fb161 : fnB Tryz.prog 161 = true := by kernel_rfl
theorem fb162 : fnB Tryz.prog 162 = true := by kernel_rfl
theorem fb165 : fnB Tryz.prog 165 = true := by kernel_rfl
theorem fb166 : fnB Tryz.prog 166 = true := by kernel_rfl
theorem fb167 : fnB Tryz.prog 167 = true := by kernel_rfl
theorem fb168 : fnB Tryz.prog 168 = true := by kernel_rfl
theorem fb169 : fnB Tryz.prog 169 = true := by kernel_rfl
theorem fb170 : fnB Tryz.prog 170 = true := by kernel_rfl
theorem fb176 : fnB Tryz.prog 176 = true := by kernel_rfl
theorem fb25 : fnB Tryz.prog 25 = true := by kernel_rfl
theorem fb37 : fnB Tryz.prog 37 = true := by kernel_rfl
theorem fb38 : fnB Tryz.prog 38 = true := by kernel_rfl
theorem fb39 : fnB Tryz.prog 39 = true := by kernel_rfl
theorem fb40 : fnB Tryz.prog 40 = true := by kernel_rfl
theorem fb41 : fnB Tryz.prog 41 = true := by kernel_rfl
theorem fb42 : fnB Tryz.prog 42 = true := by kernel_rfl
theorem fb43 : fnB Tryz.prog 43 = true := by kernel_rfl
theorem fb44 : fnB Tryz.prog 44 = true := by kernel_rfl
theorem fb45 : fnB Tryz.prog 45 = true := by kernel_rfl
theorem fb46 : fnB Tryz.prog 46 = true := by kernel_rfl
theorem fb47 : fnB Tryz.prog 47 = true := by kernel_rfl
theorem fb48 : fnB Tryz.prog 48 = true := by kernel_rfl
theorem fb49 : fnB Tryz.prog 49 = true := by kernel_rfl
theorem fb50 : fnB Tryz.prog 50 = true := by kernel_rfl
theorem fb51 : fnB Tryz.prog 51 = true := by kernel_rfl
theorem fb52 : fnB Tryz.prog 52 = true := by kernel_rfl
theorem fb53 : fnB Tryz.prog 53 = true := by kernel_rfl
theorem fb54 : fnB Tryz.prog 54 = true := by kernel_rfl
theorem fb55 : fnB Tryz.prog 55 = true := by kernel_rfl
theorem fb56 : fnB Tryz.prog 56 = true := by kernel_rfl
theorem fb57 : fnB Tryz.prog 57 = true := by kernel_rfl
theorem fb58 : fnB Tryz.prog 58 = true := by kernel_rfl
theorem fb59 : fnB Tryz.prog 59 = true := by kernel_rfl
theorem fb60 : fnB Tryz.prog 60 = true := by kernel_rfl
theorem fb61 : fnB Tryz.prog 61 = true := by kernel_rfl
theorem fb62 : fnB Tryz.prog 62 = true := by kernel_rfl
theorem fb63 : fnB Tryz.prog 63 = true := by kernel_rfl
theorem fb7 : fnB Tryz.prog 7 = true := by kernel_rfl
theorem fb76 : fnB Tryz.prog 76 = true := by kernel_rfl
theorem fb77 : fnB Tryz.prog 77 = true := by kernel_rfl
theorem fb78 : fnB Tryz.prog 78 = true := by kernel_rfl
theorem fb79 : fnB Tryz.prog 79 = true := by kernel_rfl
theorem fb8 : fnB Tryz.prog 8 = true := by kernel_rfl
theorem fb80 : fnB Tryz.prog 80 = true := by kernel_rfl
theorem fb9 : fnB Tryz.prog 9 = true := by kernel_rfl
theorem fb90 : fnB Tryz.prog 90 = true := by kernel_rfl
theorem fb91 : fnB Tryz.prog 91 = true := by kernel_rfl
theorem fb92 : fnB Tryz.prog 92 = true := by kernel_rfl
theorem fb93 : fnB Tryz.prog 93 = true := by kernel_rfl
theorem fb94 : fnB Tryz.prog 94 = true := by kernel_rfl
theorem fb95 : fnB Tryz.prog 95 = true := by kernel_rfl
theorem fb96 : fnB Tryz.prog 96 = true := by kernel_rfl
theorem fb97 : fnB Tryz.prog 97 = true := by kernel_rfl
theorem fb98 : fnB Tryz.prog 98 = true := by kernel_rfl
theorem fb99 : fnB Tryz.prog 99 = true := by kernel_rfl
theorem pl129 : plB Tryz.prog 129 = true := by kernel_rfl
theorem pl143 : plB Tryz.prog 143 = true := by kernel_rfl
theorem pl26 : plB Tryz.prog 26 = true := by kernel_rfl
theorem pl30 : plB Tryz.prog 30 = true := by kernel_rfl
theorem pl38 : plB Tryz.prog 38 = true := by kernel_rfl
theorem pl75 : plB Tryz.prog 75 = true := by kernel_rfl
theorem pl77 : plB Tryz.prog 77 = true := by kernel_rfl
theorem pl90 : plB Tryz.prog 90 = true := by kernel_rfl
theorem ub4 : Tryz.prog.underlying 4 = some .bool := by kernel_rfl
theorem ui3 : Tryz.prog.underlying 3 = some (.int .i64) := by kernel_rfl
theorem ul133 : Tryz.prog.underlying 133 = some (.slice 27) := by kernel_rfl
theorem ul23 : Tryz.prog.underlying 23 = some (.slice 90) := by kernel_rfl
theorem ul24 : Tryz.prog.underlying 24 = some (.slice 38) := by kernel_rfl
theorem ul27 : Tryz.prog.underlying 27 = some (.slice 143) := by kernel_rfl
theorem ul28 : Tryz.prog.underlying 28 = some (.slice 93) := by kernel_rfl
theorem ul45 : Tryz.prog.underlying 45 = some (.slice 77) := by kernel_rfl
theorem ul93 : Tryz.prog.underlying 93 = some (.slice 3) := by kernel_rfl
theorem us5 : (Tryz.prog.underlying 5).isSome = true := by kernel_rfl
theorem weq143 : EqOk Tryz.prog 143 Itm := EqOk.itm (Ti := 3) (Tp := 75) (by kernel_rfl) (by kernel_rfl) (by kernel_rfl) (by kernel_rfl) ty3 (by kernel_rfl) ty75 (by kernel_rfl) (by kernel_rfl) (by kernel_rfl)
theorem mixed : Tryz.prog.follows .mixedOrders = true := by kernel_rfl
end Go.Proofs.YtmhmeppocbcmeaaGreat

/- Payments and chains. -/
set_option linter.unusedVariables false
namespace Go.Proofs.YtmhmeppocbcmeaaGreat
open Go Go.Wt
theorem within_ct (n lo hi : Int) : CtP Tryz.prog 98 [.v n, .v lo, .v hi] (.v (within n lo hi)) := by
  refine Ct.intro Tryz.func98 rfl rfl ?_
  all_goals refine aS (aR ?_)
  all_goals refine oC (oA rfl (Conv.of rfl) rfl) ?_
  all_goals refine oN ?_
  all_goals refine aS (aR ?_)
  all_goals refine oC (oM rfl (Conv.of rfl) rfl) ?_
  all_goals refine oC (oM rfl (Conv.of rfl) rfl) ?_
  all_goals refine oC (op_geq rfl rfl rfl) ?_
  all_goals refine oC (oM rfl (Conv.of rfl) rfl) ?_
  all_goals refine g_split (t := 10) rfl (fun h => ?_) (fun h => ?_)
  all_goals first | refine oC (gF rfl rfl rfl rfl rfl) ?_ | refine oC (gN rfl rfl rfl (oM rfl (Conv.of rfl) rfl)) ?_
  all_goals first | refine oC (gF rfl rfl rfl rfl rfl) ?_ | refine oC (gN rfl rfl rfl (oM rfl (Conv.of rfl) rfl)) ?_
  all_goals first | refine oC (gF rfl rfl rfl rfl rfl) ?_ | refine oC (gN rfl rfl rfl (op_leq rfl rfl rfl)) ?_
  all_goals refine oC (oQ rfl rfl rfl rfl) ?_
  all_goals refine oC (oA rfl (Conv.of rfl) rfl) ?_
  all_goals refine oN ?_
  all_goals refine aT ?_
  all_goals refine finP (.v rfl (Conv.of rfl)) rfl ?_
  all_goals (simp only [FV.av, within]; first | (rw [h]; rfl) | simp_all)
theorem epochOk_ct (n : Int) : CtP Tryz.prog 109 [.v n] (.v (within n 1 30)) := by
  refine Ct.intro Tryz.func109 rfl rfl ?_
  refine aS (aR ?_)
  refine oC (oA rfl (Conv.of rfl) rfl) ?_
  refine oN ?_
  refine aS (aR ?_)
  refine oC (oM rfl (Conv.of rfl) rfl) ?_
  refine oC (oL fb98 (.cons rfl (Conv.of rfl) (.cons rfl (Conv.of rfl) (.cons rfl (Conv.of rfl) (.nil _)))) (within_ct _ _ _) (aK rfl rfl (aK rfl rfl (aK rfl rfl aK0))) rfl rfl) ?_
  refine oC (oA rfl (Conv.of rfl) rfl) ?_
  refine oN ?_
  refine aT ?_
  exact finP (.v rfl (Conv.of rfl)) rfl rfl
theorem payOk_ct (p : Pay) : CtP Tryz.prog 110 [.v p] (.v (payOk p)) := by
  refine Ct.intro Tryz.func110 rfl rfl ?_
  all_goals refine aS (aR ?_)
  all_goals refine oC (op_box (o := 0) ty75 rfl (Conv.of rfl) rfl rfl) ?_
  all_goals refine oC (oA rfl (Conv.of rfl) rfl) ?_
  all_goals refine oN ?_
  all_goals refine aS (aR ?_)
  all_goals refine oC (oF f75_0 rfl rfl) ?_
  all_goals refine oC (oD ty3 rfl rfl rfl) ?_
  all_goals refine oC (oL fb98 (.cons rfl (Conv.of rfl) (.cons rfl (Conv.of rfl) (.cons rfl (Conv.of rfl) (.nil _)))) (within_ct _ _ _) (aK rfl rfl (aK rfl rfl (aK rfl rfl aK0))) rfl rfl) ?_
  all_goals refine oC (oM rfl (Conv.of rfl) rfl) ?_
  all_goals refine g_split (t := 6) rfl (fun h => ?_) (fun h => ?_)
  all_goals first | refine oC (gF rfl rfl rfl rfl rfl) ?_ | refine oC (gN rfl rfl rfl (oF f75_1 rfl rfl)) ?_
  all_goals first | refine oC (gF rfl rfl rfl rfl rfl) ?_ | refine oC (gN rfl rfl rfl (oD ty3 rfl rfl rfl)) ?_
  all_goals first | refine oC (gF rfl rfl rfl rfl rfl) ?_ | refine oC (gN rfl rfl rfl (oL fb98 (.cons rfl (Conv.of rfl) (.cons rfl (Conv.of rfl) (.cons rfl (Conv.of rfl) (.nil _)))) (within_ct _ _ _) (aK rfl rfl (aK rfl rfl (aK rfl rfl aK0))) rfl rfl)) ?_
  all_goals refine oC (oQ rfl rfl rfl rfl) ?_
  all_goals refine oC (oM rfl (Conv.of rfl) rfl) ?_
  all_goals first | refine g_lit (t := 11) (b := false) rfl ?_ | refine g_split (t := 11) rfl (fun h => ?_) (fun h => ?_)
  all_goals first | refine oC (gF rfl rfl rfl rfl rfl) ?_ | refine oC (gN rfl rfl rfl (oF f75_0 rfl rfl)) ?_
  all_goals first | refine oC (gF rfl rfl rfl rfl rfl) ?_ | refine oC (gN rfl rfl rfl (oD ty3 rfl rfl rfl)) ?_
  all_goals first | refine oC (gF rfl rfl rfl rfl rfl) ?_ | refine oC (gN rfl rfl rfl (oF f75_1 rfl rfl)) ?_
  all_goals first | refine oC (gF rfl rfl rfl rfl rfl) ?_ | refine oC (gN rfl rfl rfl (oD ty3 rfl rfl rfl)) ?_
  all_goals first | refine oC (gF rfl rfl rfl rfl rfl) ?_ | refine oC (gN rfl rfl rfl (op_neq rfl rfl rfl)) ?_
  all_goals refine oC (oQ rfl rfl rfl rfl) ?_
  all_goals refine oC (oM rfl (Conv.of rfl) rfl) ?_
  all_goals first | refine g_lit (t := 18) (b := false) rfl ?_ | refine g_split (t := 18) rfl (fun h => ?_) (fun h => ?_)
  all_goals first | refine oC (gF rfl rfl rfl rfl rfl) ?_ | refine oC (gN rfl rfl rfl (oF f75_2 rfl rfl)) ?_
  all_goals first | refine oC (gF rfl rfl rfl rfl rfl) ?_ | refine oC (gN rfl rfl rfl (oD ty3 rfl rfl rfl)) ?_
  all_goals first | refine oC (gF rfl rfl rfl rfl rfl) ?_ | refine oC (gN rfl rfl rfl (oL fb98 (.cons rfl (Conv.of rfl) (.cons rfl (Conv.of rfl) (.cons rfl (Conv.of rfl) (.nil _)))) (within_ct _ _ _) (aK rfl rfl (aK rfl rfl (aK rfl rfl aK0))) rfl rfl)) ?_
  all_goals refine oC (oQ rfl rfl rfl rfl) ?_
  all_goals refine oC (oA rfl (Conv.of rfl) rfl) ?_
  all_goals refine oN ?_
  all_goals refine aT ?_
  all_goals refine finP (.v rfl (Conv.of rfl)) rfl ?_
  all_goals simp_all [FV.av, payOk]
set_option maxHeartbeats 1000000 in
theorem chainOk_ct (c : List Itm) : CtP Tryz.prog 53 [.v c] (.v (chainOk c)) := by
  refine Ct.intro Tryz.func53 rfl rfl ?_
  refine awp_bigL 0 rfl (fun hB => ?_)
  all_goals refine aS (aR ?_)
  all_goals refine oC (oA rfl (Conv.of rfl) rfl) ?_
  all_goals refine oN ?_
  all_goals refine aS (aS (aR ?_))
  all_goals refine oC (oM rfl (Conv.of rfl) rfl) ?_
  all_goals refine oC (oE sl27 rfl rfl) ?_
  all_goals refine oC (oM rfl (Conv.of rfl) rfl) ?_
  all_goals refine oN ?_
  refine aB ?_
  refine awp_loop' (fun n s => ∃ (k : Nat), ∃ (hn : n + k = c.length), ∃ (hall : ∀ (j : Nat) (x : Itm), j < k → c[j]? = some x → itemOk c j x = true), s = mkSt 41 [(0, .v c), (5, .v c), (6, .v (c.length : Int)), (7, .v (k : Int))] []) (c.length) ⟨0, by omega, fun j x h => by omega, rfl⟩ (Le.mk rfl (tle rfl (rfl) rfl (tle rfl (rfl) rfl (tle rfl (rfl) rfl (tle rfl (rfl) rfl tln)))) oln noS) ?_
  rintro n s ⟨k, hn, hall, rfl⟩
  all_goals refine aS (aR ?_)
  all_goals refine oC (oLt rfl rfl rfl) ?_
  all_goals refine oN ?_
  refine aS (aC rfl (fun h => ?_) (fun h => ?_))
  · have hlt : k < c.length := by simpa using h
    have hx : c[k]? = some c[k] := List.getElem?_eq_getElem hlt
    refine aW ?_
    refine aS (aB ?_)
    all_goals refine aS (aR ?_)
    all_goals refine oC (oM rfl (Conv.of rfl) rfl) ?_
    all_goals refine oC (op_ix sl27 rfl rfl rfl (by omega) hx) ?_
    all_goals refine oC (oDR ty143 rfl rfl) ?_
    all_goals refine oC (oX (o := 0) z143 rfl rfl) ?_
    all_goals refine oC (oA rfl (Conv.of rfl) rfl) ?_
    all_goals refine oC (op_st ty143 rfl rfl (Conv.of rfl) rfl) ?_
    all_goals refine oN ?_
    have hprev : decide ((0 : Int) < k) = true → 0 ≤ (k : Int) - 1 ∧ c[((k : Int) - 1).toNat]? = some (c[k - 1]'(by omega)) := by
      intro h0
      have h1 : 0 < k := by simpa using h0
      have e : ((k : Int) - 1).toNat = k - 1 := by omega
      exact ⟨by omega, by rw [e]; exact List.getElem?_eq_getElem (by omega)⟩
    refine aST (s' := mkSt 41 [(0, .v c), (5, .v c), (6, .v (c.length : Int)), (7, .v (k : Int)), (36, .v (!itemOk c k c[k]))] []) ?_ ?_
    · all_goals refine dS ?_
      all_goals refine dC (oF f143_0 rfl rfl) ?_
      all_goals refine dC (oD ty3 rfl rfl rfl) ?_
      all_goals refine dC (oL fb109 (.cons rfl (Conv.of rfl) (.nil _)) (epochOk_ct _) (aK rfl rfl aK0) rfl rfl) ?_
      all_goals refine dC (op_not rfl rfl) ?_
      all_goals refine dC (oM rfl (Conv.of rfl) rfl) ?_
      all_goals refine dr_split (t := 16) rfl (fun h => ?_) (fun h => ?_)
      all_goals first | refine dC (gF rfl rfl rfl rfl rfl) ?_ | refine dC (gN rfl rfl rfl (oF f143_1 rfl rfl)) ?_
      all_goals first | refine dC (gF rfl rfl rfl rfl rfl) ?_ | refine dC (gN rfl rfl rfl (oD ty75 rfl rfl rfl)) ?_
      all_goals first | refine dC (gF rfl rfl rfl rfl rfl) ?_ | refine dC (gN rfl rfl rfl (oL fb110 (.cons rfl (Conv.of rfl) (.nil _)) (payOk_ct _) (aK rfl rfl aK0) rfl rfl)) ?_
      all_goals first | refine dC (gF rfl rfl rfl rfl rfl) ?_ | refine dC (gN rfl rfl rfl (op_not rfl rfl)) ?_
      all_goals refine dC (oQ rfl rfl rfl rfl) ?_
      all_goals refine dC (oM rfl (Conv.of rfl) rfl) ?_
      all_goals first | refine dr_lit (t := 22) (b := true) rfl ?_ | refine dr_split (t := 22) rfl (fun h => ?_) (fun h => ?_)
      all_goals first | refine dC (gF rfl rfl rfl rfl rfl) ?_ | refine dC (gN rfl rfl rfl (oM rfl (Conv.of rfl) rfl)) ?_
      all_goals first | refine dC (gF rfl rfl rfl rfl rfl) ?_ | refine dC (gN rfl rfl rfl (op_gtr rfl rfl rfl)) ?_
      all_goals first | refine dC (gF rfl rfl rfl rfl rfl) ?_ | refine dC (gN rfl rfl rfl (oM rfl (Conv.of rfl) rfl)) ?_
      all_goals first | refine dr_ulit (t := 25) rfl ?_ | refine dr_split (t := 25) rfl (fun h => ?_) (fun h => ?_)
      all_goals first | refine dC (gF rfl rfl rfl rfl rfl) ?_ | refine dC (g_und rfl rfl rfl) ?_ | refine dC (gN rfl rfl rfl (oM rfl (Conv.of rfl) rfl)) ?_
      all_goals first | refine dC (gF rfl rfl rfl rfl rfl) ?_ | refine dC (g_und rfl rfl rfl) ?_ | refine dC (gN rfl rfl rfl (oM rfl (Conv.of rfl) rfl)) ?_
      all_goals first | refine dC (gF rfl rfl rfl rfl rfl) ?_ | refine dC (g_und rfl rfl rfl) ?_ | refine dC (gN rfl rfl rfl (op_sub rfl rfl rfl (by omega))) ?_
      all_goals first | refine dC (gF rfl rfl rfl rfl rfl) ?_ | refine dC (g_und rfl rfl rfl) ?_ | refine dC (gN rfl rfl rfl (op_ix sl27 rfl rfl rfl (hprev h).1 (hprev h).2)) ?_
      all_goals first | refine dC (gF rfl rfl rfl rfl rfl) ?_ | refine dC (g_und rfl rfl rfl) ?_ | refine dC (gN rfl rfl rfl (oFR f143_0 rfl rfl)) ?_
      all_goals first | refine dC (gF rfl rfl rfl rfl rfl) ?_ | refine dC (g_und rfl rfl rfl) ?_ | refine dC (gN rfl rfl rfl (oDR ty3 rfl rfl)) ?_
      all_goals first | refine dC (gF rfl rfl rfl rfl rfl) ?_ | refine dC (g_und rfl rfl rfl) ?_ | refine dC (gN rfl rfl rfl (oF f143_0 rfl rfl)) ?_
      all_goals first | refine dC (gF rfl rfl rfl rfl rfl) ?_ | refine dC (g_und rfl rfl rfl) ?_ | refine dC (gN rfl rfl rfl (oD ty3 rfl rfl rfl)) ?_
      all_goals first | refine dC (gF rfl rfl rfl rfl rfl) ?_ | refine dC (g_und rfl rfl rfl) ?_ | refine dC (gN rfl rfl rfl (op_geq rfl rfl rfl)) ?_
      all_goals first | refine dC (gF rfl rfl rfl rfl rfl) ?_ | refine dC (gN rfl rfl rfl (oQ rfl rfl rfl rfl)) ?_
      all_goals refine dC (oQ rfl rfl rfl rfl) ?_
      all_goals refine dr_nil mixed rfl ?_
      all_goals exact Le.mk rfl (tle rfl (rfl) rfl (tle rfl (rfl) rfl (tle rfl (rfl) rfl (tle rfl (rfl) rfl (tle rfl (by (clear hall; simp_all [itemOk_nat, List.getElem?_eq_getElem (show k - 1 < c.length by omega)])) rfl tln))))) oln noS
    refine aC rfl (fun h => ?_) (fun h => ?_)
    · all_goals refine aS (aR ?_)
      all_goals refine oC (oA rfl (Conv.of rfl) rfl) ?_
      all_goals refine oN ?_
      refine aT ?_
      repeat first | refine rS ?_ | refine rB ?_
      refine finP (.v rfl (Conv.of rfl)) rfl ?_
      show AV.v false = _
      rw [chainOk_bad hx (by simpa using h)]
    · refine aW ?_
      all_goals refine aR ?_
      all_goals refine oC (oP rfl rfl rfl (by omega)) ?_
      all_goals refine oC (oM rfl (Conv.of rfl) rfl) ?_
      all_goals refine oN ?_
      repeat first | refine nS ?_ | refine nB ?_
      exact ⟨n - 1, _, by omega, ⟨k + 1, by omega, fun j x hj hjx => chainOk_more hx hall (by simpa using h) hj hjx, rfl⟩, Le.mk rfl (tle rfl (rfl) rfl (tle rfl (rfl) rfl (tle rfl (rfl) rfl (tle rfl (rfl) rfl tln)))) oln noS⟩
  · refine aE ?_
    repeat refine ex_seq ?_
    refine eB ?_
    all_goals refine aS (aR ?_)
    all_goals refine oC (oM rfl (Conv.of rfl) rfl) ?_
    all_goals refine oC (oE sl27 rfl rfl) ?_
    all_goals refine oC (op_leq rfl rfl rfl) ?_
    all_goals refine oC (oA rfl (Conv.of rfl) rfl) ?_
    all_goals refine oN ?_
    refine aT ?_
    repeat first | refine rS ?_ | refine rB ?_
    refine finP (.v rfl (Conv.of rfl)) rfl ?_
    show AV.v _ = _
    rw [chainOk_good (k := k) (by simpa using h) hall]
end Go.Proofs.YtmhmeppocbcmeaaGreat

/- Rows that are the same, copied, searched. -/
set_option linter.unusedVariables false
namespace Go.Proofs.YtmhmeppocbcmeaaGreat
open Go Go.Wt
theorem equal_ct (a b : List Itm) : CtP Tryz.prog 169 [.v a, .v b] (.v (decide (a = b))) := by
  refine Ct.intro Tryz.func169 rfl rfl ?_
  refine awp_bigL 0 rfl (fun hB => ?_)
  refine aS (aR ?_)
  refine oC (oA rfl (Conv.of rfl) rfl) ?_
  refine oN ?_
  refine aS (aS (aR ?_))
  refine oC (oM rfl (Conv.of rfl) rfl) ?_
  refine oC (oE sl27 rfl rfl) ?_
  refine oC (oM rfl (Conv.of rfl) rfl) ?_
  refine oC (oE sl27 rfl rfl) ?_
  refine oC (op_neq rfl rfl rfl) ?_
  refine oN ?_
  refine aC rfl (fun h => ?_) (fun h => ?_)
  · refine aS (aR ?_)
    refine oC (oA rfl (Conv.of rfl) rfl) ?_
    refine oN ?_
    refine aT ?_
    repeat first | refine rS ?_ | refine rB ?_
    refine finP (.v rfl (Conv.of rfl)) rfl ?_
    show AV.v false = _
    have : a ≠ b := by intro e; subst e; simp at h
    simp [this]
  · refine aW ?_
    have hlen : a.length = b.length := by simp at h; omega
    refine aS (aS (aR ?_))
    refine oC (oM rfl (Conv.of rfl) rfl) ?_
    refine oC (oE sl27 rfl rfl) ?_
    refine oC (oM rfl (Conv.of rfl) rfl) ?_
    refine oN ?_
    refine aB ?_
    refine awp_loop' (fun n s => ∃ (k : Nat), ∃ (hn : n + k = a.length), ∃ (hall : decide (a = b) = decide (a.drop k = b.drop k)), s = mkSt 26 [(0, .v a), (1, .v b), (12, .v (a.length : Int)), (13, .v (k : Int))] []) (a.length) ⟨0, by omega, rfl, rfl⟩ (Le.mk rfl (tle rfl (rfl) rfl (tle rfl (rfl) rfl (tle rfl (rfl) rfl (tle rfl (rfl) rfl tln)))) oln noS) ?_
    rintro n s ⟨k, hn, hall, rfl⟩
    refine aS (aR ?_)
    refine oC (oLt rfl rfl rfl) ?_
    refine oN ?_
    refine aS (aC rfl (fun h => ?_) (fun h => ?_))
    · have hlt : k < a.length := by simpa using h
      have hx : a[k]? = some a[k] := List.getElem?_eq_getElem hlt
      have hy : b[k]? = some (b[k]'(by omega)) := List.getElem?_eq_getElem (by omega)
      have hs := same_drop hx hy
      refine aW ?_
      refine aS (aB ?_)
      refine aS (aR ?_)
      refine oC (oM rfl (Conv.of rfl) rfl) ?_
      refine oC (oA rfl (Conv.of rfl) rfl) ?_
      refine oN ?_
      refine aS (dS ?_)
      refine dC (oM rfl (Conv.of rfl) rfl) ?_
      refine dC (oM rfl (Conv.of rfl) rfl) ?_
      refine dC (op_ix sl27 rfl rfl rfl (by omega) hx) ?_
      refine dC (oDR ty143 rfl rfl) ?_
      refine dC (oM rfl (Conv.of rfl) rfl) ?_
      refine dC (oM rfl (Conv.of rfl) rfl) ?_
      refine dC (op_ix sl27 rfl rfl rfl (by omega) hy) ?_
      refine dC (oDR ty143 rfl rfl) ?_
      refine dC (op_nea weq143 rfl rfl rfl) ?_
      refine dr_nil mixed rfl ?_
      refine aC rfl (fun h => ?_) (fun h => ?_)
      · refine aS (aR ?_)
        refine oC (oA rfl (Conv.of rfl) rfl) ?_
        refine oN ?_
        refine aT ?_
        repeat first | refine rS ?_ | refine rB ?_
        refine finP (.v rfl (Conv.of rfl)) rfl ?_
        show AV.v false = _
        have h' : decide (a[k] = b[k]) = false := by simpa using h
        rw [hall, hs, h', Bool.false_and]
      · refine aW ?_
        refine aR ?_
        refine oC (oP rfl rfl rfl (by omega)) ?_
        refine oC (oM rfl (Conv.of rfl) rfl) ?_
        refine oN ?_
        have h' : decide (a[k] = b[k]) = true := by simpa using h
        repeat first | refine nS ?_ | refine nB ?_
        exact ⟨n - 1, _, by omega, ⟨k + 1, by omega, by rw [hall, hs, h', Bool.true_and], rfl⟩, Le.mk rfl (tle rfl (rfl) rfl (tle rfl (rfl) rfl (tle rfl (rfl) rfl (tle rfl (rfl) rfl tln)))) oln noS⟩
    · refine aE ?_
      repeat refine ex_seq ?_
      refine eB ?_
      have hk : a.length ≤ k := by simpa using h
      refine aS (aR ?_)
      refine oC (oA rfl (Conv.of rfl) rfl) ?_
      refine oN ?_
      refine aT ?_
      repeat first | refine rS ?_ | refine rB ?_
      refine finP (.v rfl (Conv.of rfl)) rfl ?_
      show AV.v true = _
      rw [hall, drop_end hk, drop_end (by omega : b.length ≤ k)]
      simp
theorem cloneI_ct (a : List Itm) (ha : a.length ≤ 1000000) : CtP Tryz.prog 114 [.v a] (.v (OList.mk a true)) := by
  refine Ct.intro Tryz.func114 rfl rfl ?_
  refine aS (aR ?_)
  refine oC (oA rfl (Conv.of rfl) rfl) ?_
  refine oN ?_
  refine aS (aS (aR ?_))
  refine oC (oM rfl (Conv.of rfl) rfl) ?_
  refine awpOps_nil? sl27 rfl rfl (fun b hb => ?_)
  refine oN ?_
  refine aC rfl (fun h => ?_) (fun h => ?_)
  · refine aS (aR ?_)
    refine oC (oA rfl (Conv.of rfl) rfl) ?_
    refine oN ?_
    refine aT ?_
    repeat first | refine rS ?_ | refine rB ?_
    refine ⟨_, _, res1 (ol := []) (r := .v (OList.mk a true)) (.rt rfl ?_) (by intro o ho; cases ho) trivial noS, rfl, rfl⟩
    rw [hb h]; exact Conv.no
  · refine aW ?_
    refine aS (aR ?_)
    refine oC (op_bsl sl27 z143 (.nil _) rfl (by decide) rfl) ?_
    refine oC (oM rfl (Conv.of rfl) rfl) ?_
    refine oC (op_app sl27 z143 ul27 rfl rfl rfl (by (simp; omega)) (by (simp; omega)) rfl rfl) ?_
    refine oC (op_asl rfl rfl rfl rfl) ?_
    refine oN ?_
    refine aT ?_
    repeat first | refine rS ?_ | refine rB ?_
    exact finM rfl rfl (by simp)
theorem clipI_ct (a : OList Itm) : CtP Tryz.prog 113 [.v a.l] (.v (CList.mk a.l)) := by
  refine Ct.intro Tryz.func113 rfl rfl ?_
  refine aS (aR ?_)
  refine oC (oA rfl (Conv.of rfl) rfl) ?_
  refine oN ?_
  refine aS (aR ?_)
  refine oC (oM rfl (Conv.of rfl) rfl) ?_
  refine oC (oM rfl (Conv.of rfl) rfl) ?_
  refine oC (oE sl27 rfl rfl) ?_
  refine oC (oM rfl (Conv.of rfl) rfl) ?_
  refine oC (oE sl27 rfl rfl) ?_
  refine oC (op_slhm sl27 rfl rfl rfl rfl (by simp)) ?_
  refine oC (oA rfl (Conv.of rfl) rfl) ?_
  refine oN ?_
  refine aT ?_
  repeat first | refine rS ?_ | refine rB ?_
  refine finP (.v rfl (Conv.of rfl)) rfl ?_
  show AV.v (CList.mk _) = _
  simp
theorem clipV_ct (a : OList Vote) : CtP Tryz.prog 60 [.v a.l] (.v (CList.mk a.l)) := by
  refine Ct.intro Tryz.func60 rfl rfl ?_
  refine aS (aR ?_)
  refine oC (oA rfl (Conv.of rfl) rfl) ?_
  refine oN ?_
  refine aS (aR ?_)
  refine oC (oM rfl (Conv.of rfl) rfl) ?_
  refine oC (oM rfl (Conv.of rfl) rfl) ?_
  refine oC (oE sl24 rfl rfl) ?_
  refine oC (oM rfl (Conv.of rfl) rfl) ?_
  refine oC (oE sl24 rfl rfl) ?_
  refine oC (op_slhm sl24 rfl rfl rfl rfl (by simp)) ?_
  refine oC (oA rfl (Conv.of rfl) rfl) ?_
  refine oN ?_
  refine aT ?_
  repeat first | refine rS ?_ | refine rB ?_
  refine finP (.v rfl (Conv.of rfl)) rfl ?_
  show AV.v (CList.mk _) = _
  simp
end Go.Proofs.YtmhmeppocbcmeaaGreat

/- Searching with a function; votes. -/
set_option linter.unusedVariables false
namespace Go.Proofs.YtmhmeppocbcmeaaGreat
open Go Go.Wt
theorem indexW_ct (l : List (Vote)) (fn : FuncId) (fa fc : List FV) (hO : Nat → Wt.Obj) (p : Vote → Bool) (hB : fnB Tryz.prog fn = true)
    (hf : ∀ x ∈ l, Ct Tryz.prog fn (avs fa ++ [.v x] ++ avs fc) hO (fun r1 h1 => r1 = .v (p x) ∧ h1 = hO)) (hd : ∀ z ∈ avs fa ++ avs fc, Hand hO z) (hH : ∀ o, obOk (pH hO) (hO o)) :
    Ct Tryz.prog 168 [.v l, .fn fn fa fc] hO (fun r1 h1 => r1 = .v (ixf p l 0) ∧ h1 = hO) := by
  refine Ct.intro Tryz.func168 rfl rfl ?_
  refine awp_bigL 0 rfl (fun hb => ?_)
  refine aS (aR ?_)
  refine oC (oA rfl (Conv.of rfl) rfl) ?_
  refine oN ?_
  refine aS (aS (aR ?_))
  refine oC (oM rfl (Conv.of rfl) rfl) ?_
  refine oC (oE sl141_Vote rfl rfl) ?_
  refine oC (oM rfl (Conv.of rfl) rfl) ?_
  refine oN ?_
  refine aB ?_
  refine awp_loop' (fun n s => ∃ (k : Nat), ∃ (hn : n + k = l.length), ∃ (hall : ixf p l 0 = ixf p (l.drop k) k), s = mkStH 19 [(0, .v l), (1, .fn fn fa fc), (7, .v (l.length : Int)), (8, .v (k : Int))] hO) (l.length) ⟨0, by omega, rfl, rfl⟩ (Le.mkH rfl (tlh rfl (rfl) (tlh rfl (rfl) (tlh rfl (rfl) (tlh rfl (rfl) tln)))) rfl) ?_
  rintro n s ⟨k, hn, hall, rfl⟩
  refine aS (aR ?_)
  refine oC (oLt rfl rfl rfl) ?_
  refine oN ?_
  refine aS (aC rfl (fun h => ?_) (fun h => ?_))
  · have hlt : k < l.length := by simpa using h
    have hx : l[k]? = some l[k] := List.getElem?_eq_getElem hlt
    have hs := ixf_drop (p := p) hx
    refine aW ?_
    refine aS (aB ?_)
    refine aS (aR ?_)
    refine oC (oM rfl (Conv.of rfl) rfl) ?_
    refine oC (oA rfl (Conv.of rfl) rfl) ?_
    refine oN ?_
    refine aS (aR ?_)
    refine oC (oM rfl (Conv.of (Hand.fn hd).1) rfl) ?_
    refine oC (oM rfl (Conv.of rfl) rfl) ?_
    refine oC (oM rfl (Conv.of rfl) rfl) ?_
    refine oC (op_ix sl141_Vote rfl rfl rfl (by omega) hx) ?_
    refine oC (oDR ty38 rfl rfl) ?_
    refine awpOps_callH rfl hB (.cons rfl (Conv.of rfl) (.nil _)) rfl (hf _ (List.getElem_mem hlt)) (Hand.with hd (Hand.l1 (Hand.of rfl rfl) Hand.l0)) hH rfl rfl ?_
    refine oN ?_
    refine aC rfl (fun h => ?_) (fun h => ?_)
    · refine aS (aR ?_)
      refine oC (oM rfl (Conv.of rfl) rfl) ?_
      refine oC (oA rfl (Conv.of rfl) rfl) ?_
      refine oN ?_
      refine aT ?_
      repeat first | refine rS ?_ | refine rB ?_
      refine finH (r := .v (k : Int)) (.v rfl (Conv.of rfl)) ?_ rfl
      show AV.v (k : Int) = _
      rw [hall, hs, h]; rfl
    · refine aW ?_
      refine aR ?_
      refine oC (oP rfl rfl rfl (by omega)) ?_
      refine oC (oM rfl (Conv.of rfl) rfl) ?_
      refine oN ?_
      repeat first | refine nS ?_ | refine nB ?_
      exact ⟨n - 1, _, by omega, ⟨k + 1, by omega, by rw [hall, hs, h]; rfl, rfl⟩, Le.mkH rfl (tlh rfl (rfl) (tlh rfl (rfl) (tlh rfl (rfl) (tlh rfl (rfl) tln)))) rfl⟩
  · refine aE ?_
    repeat refine ex_seq ?_
    refine eB ?_
    have hk : l.length ≤ k := by simpa using h
    refine aS (aR ?_)
    refine oC (oA rfl (Conv.of rfl) rfl) ?_
    refine oN ?_
    refine aT ?_
    repeat first | refine rS ?_ | refine rB ?_
    refine finH (r := .v (-1 : Int)) (.v rfl (Conv.of rfl)) ?_ rfl
    show AV.v (-1 : Int) = _
    rw [hall, drop_end hk]; rfl
theorem containsW_ct (l : List (Vote)) (fn : FuncId) (fa fc : List FV) (hO : Nat → Wt.Obj) (p : Vote → Bool) (hB : fnB Tryz.prog fn = true)
    (hf : ∀ x ∈ l, Ct Tryz.prog fn (avs fa ++ [.v x] ++ avs fc) hO (fun r1 h1 => r1 = .v (p x) ∧ h1 = hO)) (hd : ∀ z ∈ avs fa ++ avs fc, Hand hO z) (hH : ∀ o, obOk (pH hO) (hO o)) :
    Ct Tryz.prog 151 [.v l, .fn fn fa fc] hO (fun r1 h1 => r1 = .v (l.any p) ∧ h1 = hO) := by
  refine Ct.intro Tryz.func151 rfl rfl ?_
  refine aS (aR ?_)
  refine oC (oA rfl (Conv.of rfl) rfl) ?_
  refine oN ?_
  refine aS (aR ?_)
  refine oC (oM rfl (Conv.of rfl) rfl) ?_
  refine oC (oM rfl (Conv.of (Hand.fn hd).1) rfl) ?_
  refine awpOps_callH rfl (fb168) (.cons rfl (Conv.of rfl) (.cons rfl (Conv.of (Hand.fn hd).1) (.nil _))) rfl (indexW_ct l fn fa fc hO p hB hf hd hH) (Hand.none (Hand.l1 (Hand.of rfl rfl) (Hand.l1 (Hand.fn hd) Hand.l0))) hH rfl rfl ?_
  refine oC (op_geq rfl rfl rfl) ?_
  refine oC (oA rfl (Conv.of rfl) rfl) ?_
  refine oN ?_
  refine aT ?_
  repeat first | refine rS ?_ | refine rB ?_
  refine finH (r := .v (decide (0 ≤ ixf p l 0))) (.v rfl (Conv.of rfl)) ?_ rfl
  show AV.v _ = _
  rw [ixf_any p l 0 (Int.le_refl _)]
theorem indexV_ct (l : List (Vote)) (fn : FuncId) (fa fc : List FV) (hO : Nat → Wt.Obj) (p : Vote → Bool) (hB : fnB Tryz.prog fn = true)
    (hf : ∀ x ∈ l, Ct Tryz.prog fn (avs fa ++ [.v x] ++ avs fc) hO (fun r1 h1 => r1 = .v (p x) ∧ h1 = hO)) (hd : ∀ z ∈ avs fa ++ avs fc, Hand hO z) (hH : ∀ o, obOk (pH hO) (hO o)) :
    Ct Tryz.prog 102 [.v l, .fn fn fa fc] hO (fun r1 h1 => r1 = .v (ixf p l 0) ∧ h1 = hO) := by
  refine Ct.intro Tryz.func102 rfl rfl ?_
  refine awp_bigL 0 rfl (fun hb => ?_)
  refine aS (aR ?_)
  refine oC (oA rfl (Conv.of rfl) rfl) ?_
  refine oN ?_
  refine aS (aS (aR ?_))
  refine oC (oM rfl (Conv.of rfl) rfl) ?_
  refine oC (oE sl24_Vote rfl rfl) ?_
  refine oC (oM rfl (Conv.of rfl) rfl) ?_
  refine oN ?_
  refine aB ?_
  refine awp_loop' (fun n s => ∃ (k : Nat), ∃ (hn : n + k = l.length), ∃ (hall : ixf p l 0 = ixf p (l.drop k) k), s = mkStH 19 [(0, .v l), (1, .fn fn fa fc), (7, .v (l.length : Int)), (8, .v (k : Int))] hO) (l.length) ⟨0, by omega, rfl, rfl⟩ (Le.mkH rfl (tlh rfl (rfl) (tlh rfl (rfl) (tlh rfl (rfl) (tlh rfl (rfl) tln)))) rfl) ?_
  rintro n s ⟨k, hn, hall, rfl⟩
  refine aS (aR ?_)
  refine oC (oLt rfl rfl rfl) ?_
  refine oN ?_
  refine aS (aC rfl (fun h => ?_) (fun h => ?_))
  · have hlt : k < l.length := by simpa using h
    have hx : l[k]? = some l[k] := List.getElem?_eq_getElem hlt
    have hs := ixf_drop (p := p) hx
    refine aW ?_
    refine aS (aB ?_)
    refine aS (aR ?_)
    refine oC (oM rfl (Conv.of rfl) rfl) ?_
    refine oC (oA rfl (Conv.of rfl) rfl) ?_
    refine oN ?_
    refine aS (aR ?_)
    refine oC (oM rfl (Conv.of (Hand.fn hd).1) rfl) ?_
    refine oC (oM rfl (Conv.of rfl) rfl) ?_
    refine oC (oM rfl (Conv.of rfl) rfl) ?_
    refine oC (op_ix sl24_Vote rfl rfl rfl (by omega) hx) ?_
    refine oC (oDR ty38 rfl rfl) ?_
    refine awpOps_callH rfl hB (.cons rfl (Conv.of rfl) (.nil _)) rfl (hf _ (List.getElem_mem hlt)) (Hand.with hd (Hand.l1 (Hand.of rfl rfl) Hand.l0)) hH rfl rfl ?_
    refine oN ?_
    refine aC rfl (fun h => ?_) (fun h => ?_)
    · refine aS (aR ?_)
      refine oC (oM rfl (Conv.of rfl) rfl) ?_
      refine oC (oA rfl (Conv.of rfl) rfl) ?_
      refine oN ?_
      refine aT ?_
      repeat first | refine rS ?_ | refine rB ?_
      refine finH (r := .v (k : Int)) (.v rfl (Conv.of rfl)) ?_ rfl
      show AV.v (k : Int) = _
      rw [hall, hs, h]; rfl
    · refine aW ?_
      refine aR ?_
      refine oC (oP rfl rfl rfl (by omega)) ?_
      refine oC (oM rfl (Conv.of rfl) rfl) ?_
      refine oN ?_
      repeat first | refine nS ?_ | refine nB ?_
      exact ⟨n - 1, _, by omega, ⟨k + 1, by omega, by rw [hall, hs, h]; rfl, rfl⟩, Le.mkH rfl (tlh rfl (rfl) (tlh rfl (rfl) (tlh rfl (rfl) (tlh rfl (rfl) tln)))) rfl⟩
  · refine aE ?_
    repeat refine ex_seq ?_
    refine eB ?_
    have hk : l.length ≤ k := by simpa using h
    refine aS (aR ?_)
    refine oC (oA rfl (Conv.of rfl) rfl) ?_
    refine oN ?_
    refine aT ?_
    repeat first | refine rS ?_ | refine rB ?_
    refine finH (r := .v (-1 : Int)) (.v rfl (Conv.of rfl)) ?_ rfl
    show AV.v (-1 : Int) = _
    rw [hall, drop_end hk]; rfl
theorem containsV_ct (l : List (Vote)) (fn : FuncId) (fa fc : List FV) (hO : Nat → Wt.Obj) (p : Vote → Bool) (hB : fnB Tryz.prog fn = true)
    (hf : ∀ x ∈ l, Ct Tryz.prog fn (avs fa ++ [.v x] ++ avs fc) hO (fun r1 h1 => r1 = .v (p x) ∧ h1 = hO)) (hd : ∀ z ∈ avs fa ++ avs fc, Hand hO z) (hH : ∀ o, obOk (pH hO) (hO o)) :
    Ct Tryz.prog 44 [.v l, .fn fn fa fc] hO (fun r1 h1 => r1 = .v (l.any p) ∧ h1 = hO) := by
  refine Ct.intro Tryz.func44 rfl rfl ?_
  refine aS (aR ?_)
  refine oC (oA rfl (Conv.of rfl) rfl) ?_
  refine oN ?_
  refine aS (aR ?_)
  refine oC (oM rfl (Conv.of rfl) rfl) ?_
  refine oC (oM rfl (Conv.of (Hand.fn hd).1) rfl) ?_
  refine awpOps_callH rfl (fb102) (.cons rfl (Conv.of rfl) (.cons rfl (Conv.of (Hand.fn hd).1) (.nil _))) rfl (indexV_ct l fn fa fc hO p hB hf hd hH) (Hand.none (Hand.l1 (Hand.of rfl rfl) (Hand.l1 (Hand.fn hd) Hand.l0))) hH rfl rfl ?_
  refine oC (op_geq rfl rfl rfl) ?_
  refine oC (oA rfl (Conv.of rfl) rfl) ?_
  refine oN ?_
  refine aT ?_
  repeat first | refine rS ?_ | refine rB ?_
  refine finH (r := .v (decide (0 ≤ ixf p l 0))) (.v rfl (Conv.of rfl)) ?_ rfl
  show AV.v _ = _
  rw [ixf_any p l 0 (Int.le_refl _)]
theorem same_ct (v u : Vote) : CtP Tryz.prog 152 [.v v, .v u] (.v (decide (v = u))) := by
  refine Ct.intro Tryz.func152 rfl rfl ?_
  all_goals refine aS (aR ?_)
  all_goals refine oC (op_box (o := 0) ty38 rfl (Conv.of rfl) rfl rfl) ?_
  all_goals refine oC (op_box (o := 1) ty38 rfl (Conv.of rfl) rfl rfl) ?_
  all_goals refine oC (oA rfl (Conv.of rfl) rfl) ?_
  all_goals refine oN ?_
  all_goals refine aS (aR ?_)
  all_goals refine oC (oF f38_0 rfl rfl) ?_
  all_goals refine oC (oD ty3 rfl rfl rfl) ?_
  all_goals refine oC (oF f38_0 rfl rfl) ?_
  all_goals refine oC (oD ty3 rfl rfl rfl) ?_
  all_goals refine oC (op_eql rfl rfl rfl) ?_
  all_goals refine oC (oM rfl (Conv.of rfl) rfl) ?_
  all_goals refine g_split (t := 10) rfl (fun h => ?_) (fun h => ?_)
  all_goals first | refine oC (gF rfl rfl rfl rfl rfl) ?_ | refine oC (gN rfl rfl rfl (oF f38_1 rfl rfl)) ?_
  all_goals first | refine oC (gF rfl rfl rfl rfl rfl) ?_ | refine oC (gN rfl rfl rfl (oD ty27 rfl rfl rfl)) ?_
  all_goals first | refine oC (gF rfl rfl rfl rfl rfl) ?_ | refine oC (gN rfl rfl rfl (oF f38_1 rfl rfl)) ?_
  all_goals first | refine oC (gF rfl rfl rfl rfl rfl) ?_ | refine oC (gN rfl rfl rfl (oD ty27 rfl rfl rfl)) ?_
  all_goals first | refine oC (gF rfl rfl rfl rfl rfl) ?_ | refine oC (gN rfl rfl rfl (oL fb169 (.cons rfl (Conv.of rfl) (.cons rfl (Conv.of rfl) (.nil _))) (equal_ct _ _) (aK rfl rfl (aK rfl rfl aK0)) rfl rfl)) ?_
  all_goals refine oC (oQ rfl rfl rfl rfl) ?_
  all_goals refine oC (oA rfl (Conv.of rfl) rfl) ?_
  all_goals refine oN ?_
  all_goals refine aT ?_
  all_goals refine finP (.v rfl (Conv.of rfl)) rfl ?_
  all_goals (obtain ⟨v1, v2⟩ := v; obtain ⟨u1, u2⟩ := u; simp_all [FV.av])
theorem has_ct (l : List Vote) (v : Vote) : CtP Tryz.prog 103 [.v l, .v v] (.v (decide (v ∈ l))) := by
  refine Ct.intro Tryz.func103 rfl rfl ?_
  refine aS (aR ?_)
  refine oC (op_box (o := 0) ty38 rfl (Conv.of rfl) rfl rfl) ?_
  refine oC (oA rfl (Conv.of rfl) rfl) ?_
  refine oN ?_
  have hc := containsW_ct l 152 [.v v] [] noObj (fun x => decide (v = x)) fb152 (fun x hx => same_ct v x) (by intro z hz; simp [avs] at hz; subst hz; exact Hand.of rfl rfl) noH
  refine aS (aR ?_)
  refine oC (oM rfl (Conv.of rfl) rfl) ?_
  refine oC (oD ty38 rfl rfl rfl) ?_
  refine oC (op_mf (f := 152) (.cons (r := .v v) rfl (Conv.of rfl) .nil) .nil rfl) ?_
  refine oC (oL fb151 (.cons rfl (Conv.of rfl) (.cons rfl (Conv.of rfl) (.nil _))) (hc) (aK rfl rfl (aK rfl rfl aK0)) rfl rfl) ?_
  refine oC (oA rfl (Conv.of rfl) rfl) ?_
  refine oN ?_
  refine aT ?_
  repeat first | refine rS ?_ | refine rB ?_
  refine finP (.v rfl (Conv.of rfl)) rfl ?_
  show AV.v _ = _
  congr 1
  rw [Bool.eq_iff_iff]; simp
end Go.Proofs.YtmhmeppocbcmeaaGreat

/- Votes. -/
set_option linter.unusedVariables false
namespace Go.Proofs.YtmhmeppocbcmeaaGreat
open Go Go.Wt
theorem nodeIdOk_ct (n : Int) : CtP Tryz.prog 112 [.v n] (.v (within n 1 4)) := by
  refine Ct.intro Tryz.func112 rfl rfl ?_
  refine aS (aR ?_)
  refine oC (oA rfl (Conv.of rfl) rfl) ?_
  refine oN ?_
  refine aS (aR ?_)
  refine oC (oM rfl (Conv.of rfl) rfl) ?_
  refine oC (oL fb98 (.cons rfl (Conv.of rfl) (.cons rfl (Conv.of rfl) (.cons rfl (Conv.of rfl) (.nil _)))) (within_ct _ _ _) (aK rfl rfl (aK rfl rfl (aK rfl rfl aK0))) rfl rfl) ?_
  refine oC (oA rfl (Conv.of rfl) rfl) ?_
  refine oN ?_
  refine aT ?_
  exact finP (.v rfl (Conv.of rfl)) rfl rfl
theorem voteOk_ct (v : Vote) : CtP Tryz.prog 122 [.v v] (.v (voteOk v)) := by
  refine Ct.intro Tryz.func122 rfl rfl ?_
  all_goals refine aS (aR ?_)
  all_goals refine oC (op_box (o := 0) ty38 rfl (Conv.of rfl) rfl rfl) ?_
  all_goals refine oC (oA rfl (Conv.of rfl) rfl) ?_
  all_goals refine oN ?_
  all_goals refine aS (aR ?_)
  all_goals refine oC (oF f38_0 rfl rfl) ?_
  all_goals refine oC (oD ty3 rfl rfl rfl) ?_
  all_goals refine oC (oL fb112 (.cons rfl (Conv.of rfl) (.nil _)) (nodeIdOk_ct _) (aK rfl rfl aK0) rfl rfl) ?_
  all_goals refine oC (oM rfl (Conv.of rfl) rfl) ?_
  all_goals refine g_split (t := 6) rfl (fun h => ?_) (fun h => ?_)
  all_goals first | refine oC (gF rfl rfl rfl rfl rfl) ?_ | refine oC (gN rfl rfl rfl (oF f38_1 rfl rfl)) ?_
  all_goals first | refine oC (gF rfl rfl rfl rfl rfl) ?_ | refine oC (gN rfl rfl rfl (oD ty27 rfl rfl rfl)) ?_
  all_goals first | refine oC (gF rfl rfl rfl rfl rfl) ?_ | refine oC (gN rfl rfl rfl (oE sl27 rfl rfl)) ?_
  all_goals first | refine oC (gF rfl rfl rfl rfl rfl) ?_ | refine oC (gN rfl rfl rfl (op_gtr rfl rfl rfl)) ?_
  all_goals refine oC (oQ rfl rfl rfl rfl) ?_
  all_goals refine oC (oM rfl (Conv.of rfl) rfl) ?_
  all_goals first | refine g_lit (t := 12) (b := false) rfl ?_ | refine g_split (t := 12) rfl (fun h => ?_) (fun h => ?_)
  all_goals first | refine oC (gF rfl rfl rfl rfl rfl) ?_ | refine oC (gN rfl rfl rfl (oF f38_1 rfl rfl)) ?_
  all_goals first | refine oC (gF rfl rfl rfl rfl rfl) ?_ | refine oC (gN rfl rfl rfl (oD ty27 rfl rfl rfl)) ?_
  all_goals first | refine oC (gF rfl rfl rfl rfl rfl) ?_ | refine oC (gN rfl rfl rfl (oL fb53 (.cons rfl (Conv.of rfl) (.nil _)) (chainOk_ct _) (aK rfl rfl aK0) rfl rfl)) ?_
  all_goals refine oC (oQ rfl rfl rfl rfl) ?_
  all_goals refine oC (oA rfl (Conv.of rfl) rfl) ?_
  all_goals refine oN ?_
  all_goals refine aT ?_
  all_goals refine finP (.v rfl (Conv.of rfl)) rfl ?_
  all_goals (simp_all [FV.av, voteOk])
theorem last_ct (v : Vote) (hv : 0 < v.chain.length) : CtP Tryz.prog 150 [.v v] (.v (lastEp v.chain)) := by
  have hx : v.chain[v.chain.length - 1]? = some (v.chain[v.chain.length - 1]'(by omega)) := List.getElem?_eq_getElem (by omega)
  have hx' : v.chain[((v.chain.length : Int) - 1).toNat]? = some (v.chain[v.chain.length - 1]'(by omega)) := by
    rw [show ((v.chain.length : Int) - 1).toNat = v.chain.length - 1 by omega]; exact hx
  refine Ct.intro Tryz.func150 rfl rfl ?_
  refine aS (aR ?_)
  refine oC (op_box (o := 0) ty38 rfl (Conv.of rfl) rfl rfl) ?_
  refine oC (oA rfl (Conv.of rfl) rfl) ?_
  refine oN ?_
  refine aS (aR ?_)
  refine oC (oF f38_1 rfl rfl) ?_
  refine oC (oD ty27 rfl rfl rfl) ?_
  refine oC (oF f38_1 rfl rfl) ?_
  refine oC (oD ty27 rfl rfl rfl) ?_
  refine oC (oE sl27 rfl rfl) ?_
  refine awpOps_bigL 4 rfl (fun hb => ?_)
  refine oC (op_sub rfl rfl rfl (by omega)) ?_
  refine oC (op_ix sl27 rfl rfl rfl (by omega) hx') ?_
  refine oC (oFR f143_0 rfl rfl) ?_
  refine oC (oDR ty3 rfl rfl) ?_
  refine oC (oA rfl (Conv.of rfl) rfl) ?_
  refine oN ?_
  refine aT ?_
  repeat first | refine rS ?_ | refine rB ?_
  refine finP (.v rfl (Conv.of rfl)) rfl ?_
  show AV.v _ = _
  rw [lastEp_get hx]
set_option maxHeartbeats 1000000 in
theorem votesOk_ct (l : List Vote) : CtP Tryz.prog 99 [.v l] (.v (votesOk l)) := by
  refine Ct.intro Tryz.func99 rfl rfl ?_
  refine awp_bigL 0 rfl (fun hB => ?_)
  all_goals refine aS (aR ?_)
  all_goals refine oC (oA rfl (Conv.of rfl) rfl) ?_
  all_goals refine oN ?_
  all_goals refine aS (aS (aR ?_))
  all_goals refine oC (oM rfl (Conv.of rfl) rfl) ?_
  all_goals refine oC (oE sl24 rfl rfl) ?_
  all_goals refine oC (oM rfl (Conv.of rfl) rfl) ?_
  all_goals refine oN ?_
  refine aB ?_
  refine awp_loop' (fun n s => ∃ (k : Nat), ∃ (hn : n + k = l.length), ∃ (hall : votesOk l = votesOkFrom (l.take k) (l.drop k)), s = mkSt 23 [(0, .v l), (5, .v l), (6, .v (l.length : Int)), (7, .v (k : Int))] []) (l.length) ⟨0, by omega, rfl, rfl⟩ (Le.mk rfl (tle rfl (rfl) rfl (tle rfl (rfl) rfl (tle rfl (rfl) rfl (tle rfl (rfl) rfl tln)))) oln noS) ?_
  rintro n s ⟨k, hn, hall, rfl⟩
  all_goals refine aS (aR ?_)
  all_goals refine oC (oLt rfl rfl rfl) ?_
  all_goals refine oN ?_
  refine aS (aC rfl (fun h => ?_) (fun h => ?_))
  · have hlt : k < l.length := by simpa using h
    have hx : l[k]? = some l[k] := List.getElem?_eq_getElem hlt
    have hs := votesOk_drop hx
    refine aW ?_
    refine aS (aB ?_)
    all_goals refine aS (aR ?_)
    all_goals refine oC (oM rfl (Conv.of rfl) rfl) ?_
    all_goals refine oC (op_ix sl24 rfl rfl rfl (by omega) hx) ?_
    all_goals refine oC (oDR ty38 rfl rfl) ?_
    all_goals refine oC (oX (o := 0) z38 rfl rfl) ?_
    all_goals refine oC (oA rfl (Conv.of rfl) rfl) ?_
    all_goals refine oC (op_st ty38 rfl rfl (Conv.of rfl) rfl) ?_
    all_goals refine oN ?_
    refine aST (s' := mkSt 23 [(0, .v l), (5, .v l), (6, .v (l.length : Int)), (7, .v (k : Int)), (21, .v (!(voteOk l[k] && !decide (l[k] ∈ l.take k))))] []) ?_ ?_
    · all_goals refine dS ?_
      all_goals refine dC (oD ty38 rfl rfl rfl) ?_
      all_goals refine dC (oL fb122 (.cons rfl (Conv.of rfl) (.nil _)) (voteOk_ct _) (aK rfl rfl aK0) rfl rfl) ?_
      all_goals refine dC (op_not rfl rfl) ?_
      all_goals refine dC (oM rfl (Conv.of rfl) rfl) ?_
      all_goals refine dr_split (t := 15) rfl (fun h => ?_) (fun h => ?_)
      all_goals first | refine dC (gF rfl rfl rfl rfl rfl) ?_ | refine dC (gN rfl rfl rfl (oM rfl (Conv.of rfl) rfl)) ?_
      all_goals first | refine dC (gF rfl rfl rfl rfl rfl) ?_ | refine dC (gN rfl rfl rfl (oM rfl (Conv.of rfl) rfl)) ?_
      all_goals first | refine dC (gF rfl rfl rfl rfl rfl) ?_ | refine dC (gN rfl rfl rfl (op_slh sl24 rfl rfl rfl ⟨by omega, by omega⟩)) ?_
      all_goals first | refine dC (gF rfl rfl rfl rfl rfl) ?_ | refine dC (gN rfl rfl rfl (oD ty38 rfl rfl rfl)) ?_
      all_goals first | refine dC (gF rfl rfl rfl rfl rfl) ?_ | refine dC (gN rfl rfl rfl (oL fb103 (.cons rfl (Conv.of rfl) (.cons rfl (Conv.of rfl) (.nil _))) (has_ct _ _) (aK rfl rfl (aK rfl rfl aK0)) rfl rfl)) ?_
      all_goals refine dC (oQ rfl rfl rfl rfl) ?_
      all_goals refine dr_nil mixed rfl ?_
      all_goals exact Le.mk rfl (tle rfl (rfl) rfl (tle rfl (rfl) rfl (tle rfl (rfl) rfl (tle rfl (rfl) rfl (tle rfl (by (clear hall hs; simp_all)) rfl tln))))) oln noS
    refine aC rfl (fun h => ?_) (fun h => ?_)
    · all_goals refine aS (aR ?_)
      all_goals refine oC (oA rfl (Conv.of rfl) rfl) ?_
      all_goals refine oN ?_
      refine aT ?_
      repeat first | refine rS ?_ | refine rB ?_
      refine finP (.v rfl (Conv.of rfl)) rfl ?_
      show AV.v false = _
      rw [hall, hs, not_t h, Bool.false_and]
    · refine aW ?_
      all_goals refine aR ?_
      all_goals refine oC (oP rfl rfl rfl (by omega)) ?_
      all_goals refine oC (oM rfl (Conv.of rfl) rfl) ?_
      all_goals refine oN ?_
      repeat first | refine nS ?_ | refine nB ?_
      exact ⟨n - 1, _, by omega, ⟨k + 1, by omega, by rw [hall, hs, not_f h, Bool.true_and], rfl⟩, Le.mk rfl (tle rfl (rfl) rfl (tle rfl (rfl) rfl (tle rfl (rfl) rfl (tle rfl (rfl) rfl tln)))) oln noS⟩
  · refine aE ?_
    repeat refine ex_seq ?_
    refine eB ?_
    have hk : l.length ≤ k := by simpa using h
    all_goals refine aS (aR ?_)
    all_goals refine oC (oA rfl (Conv.of rfl) rfl) ?_
    all_goals refine oN ?_
    refine aT ?_
    repeat first | refine rS ?_ | refine rB ?_
    refine finP (.v rfl (Conv.of rfl)) rfl ?_
    show AV.v true = _
    rw [hall, drop_end hk]; rfl
theorem copied_ct (c : List Itm) (hc : c.length ≤ 1000000) : CtP Tryz.prog 58 [.v c] (.v (CList.mk c)) := by
  refine Ct.intro Tryz.func58 rfl rfl ?_
  refine aS (aR ?_)
  refine oC (oA rfl (Conv.of rfl) rfl) ?_
  refine oN ?_
  refine aS (aR ?_)
  refine oC (oM rfl (Conv.of rfl) rfl) ?_
  refine oC (oL fb114 (.cons rfl (Conv.of rfl) (.nil _)) (cloneI_ct _ hc) (aK rfl rfl aK0) rfl rfl) ?_
  refine oC (oL fb113 (.cons rfl ((Conv.ol)) (.nil _)) (clipI_ct ⟨c, true⟩) (aK rfl rfl aK0) rfl rfl) ?_
  refine oC (oA rfl (Conv.of rfl) rfl) ?_
  refine oN ?_
  refine aT ?_
  repeat first | refine rS ?_ | refine rB ?_
  exact finP (.v rfl (Conv.of rfl)) rfl rfl
end Go.Proofs.YtmhmeppocbcmeaaGreat

/- Votes copied, counted; sure chains. -/
set_option linter.unusedVariables false
namespace Go.Proofs.YtmhmeppocbcmeaaGreat
open Go Go.Wt
end Go.Proofs.YtmhmeppocbcmeaaGreat

/- Sure chains, the longest, the final part. -/
set_option linter.unusedVariables false
set_option linter.unusedSimpArgs false
namespace Go.Proofs.YtmhmeppocbcmeaaGreat
open Go Go.Wt
theorem final_ct (c : List Itm) (hc : ∀ x ∈ c, 0 ≤ x.epoch ∧ x.epoch ≤ 1000000) : CtP Tryz.prog 54 [.v c] (.v (finLen c)) := by
  have hep : ∀ (i : Nat) (hi : i < c.length), 0 ≤ c[i].epoch ∧ c[i].epoch ≤ 1000000 := fun i hi => hc _ (List.getElem_mem hi)
  refine Ct.intro Tryz.func54 rfl rfl ?_
  refine awp_bigL 0 rfl (fun hB => ?_)
  all_goals first | refine aS (aR ?_) | refine aS (aS (aR ?_)) | refine aR ?_ | refine aS (aS (aS (aR ?_)))
  all_goals refine oC (oA rfl (Conv.of rfl) rfl) ?_
  all_goals refine oN ?_
  all_goals first | refine aS (aR ?_) | refine aS (aS (aR ?_)) | refine aR ?_ | refine aS (aS (aS (aR ?_)))
  all_goals first | refine oC (oM rfl (Conv.of rfl) rfl) ?_ | refine oC (op_mvl rfl rfl rfl rfl) ?_ | refine oC (op_mvo rfl rfl rfl rfl) ?_
  all_goals first | refine oC (oE sl27 rfl rfl) ?_ | refine oC (oEA sl27 rfl rfl rfl) ?_
  all_goals first | refine oC (oA rfl (Conv.of rfl) rfl) ?_ | refine oC (op_asl rfl rfl rfl rfl) ?_ | refine oC (op_aso rfl rfl rfl rfl) ?_
  all_goals refine oN ?_
  first | refine aS (aB ?_) | refine aS (aS (aB ?_)) | refine aB ?_ | refine aS (aS (aS (aB ?_)))
  first | refine aS (awp_loop' (fun n s => ∃ (k : Nat), ∃ (hn : n = k), ∃ (hk : k ≤ c.length), ∃ (hall : finLen c = finFrom c k), s = mkSt 42 [(0, .v c), (3, .v (k : Int))] []) (c.length) ⟨c.length, rfl, Nat.le_refl _, rfl, rfl⟩ (Le.mk rfl (tle rfl (rfl) rfl (tle rfl (by first | rfl | (show AV.v _ = AV.v _; congr 1; omega)) rfl tln)) oln noS) ?_) | refine aS (aS (awp_loop' (fun n s => ∃ (k : Nat), ∃ (hn : n = k), ∃ (hk : k ≤ c.length), ∃ (hall : finLen c = finFrom c k), s = mkSt 42 [(0, .v c), (3, .v (k : Int))] []) (c.length) ⟨c.length, rfl, Nat.le_refl _, rfl, rfl⟩ (Le.mk rfl (tle rfl (rfl) rfl (tle rfl (by first | rfl | (show AV.v _ = AV.v _; congr 1; omega)) rfl tln)) oln noS) ?_)) | refine awp_loop' (fun n s => ∃ (k : Nat), ∃ (hn : n = k), ∃ (hk : k ≤ c.length), ∃ (hall : finLen c = finFrom c k), s = mkSt 42 [(0, .v c), (3, .v (k : Int))] []) (c.length) ⟨c.length, rfl, Nat.le_refl _, rfl, rfl⟩ (Le.mk rfl (tle rfl (rfl) rfl (tle rfl (by first | rfl | (show AV.v _ = AV.v _; congr 1; omega)) rfl tln)) oln noS) ?_ | refine aS (aS (aS (awp_loop' (fun n s => ∃ (k : Nat), ∃ (hn : n = k), ∃ (hk : k ≤ c.length), ∃ (hall : finLen c = finFrom c k), s = mkSt 42 [(0, .v c), (3, .v (k : Int))] []) (c.length) ⟨c.length, rfl, Nat.le_refl _, rfl, rfl⟩ (Le.mk rfl (tle rfl (rfl) rfl (tle rfl (by first | rfl | (show AV.v _ = AV.v _; congr 1; omega)) rfl tln)) oln noS) ?_)))
  rintro n s ⟨k, hn, hk, hall, rfl⟩
  all_goals first | refine aS (aR ?_) | refine aS (aS (aR ?_)) | refine aR ?_ | refine aS (aS (aS (aR ?_)))
  all_goals first | refine oC (oM rfl (Conv.of rfl) rfl) ?_ | refine oC (op_mvl rfl rfl rfl rfl) ?_ | refine oC (op_mvo rfl rfl rfl rfl) ?_
  all_goals refine oC (op_gtr rfl rfl rfl) ?_
  all_goals refine oN ?_
  first | refine aS (aC rfl (fun h => ?_) (fun h => ?_)) | refine aS (aS (aC rfl (fun h => ?_) (fun h => ?_))) | refine aC rfl (fun h => ?_) (fun h => ?_) | refine aS (aS (aS (aC rfl (fun h => ?_) (fun h => ?_))))
  · obtain ⟨m, rfl⟩ : ∃ m, k = m + 3 := ⟨k - 3, by simp at h; omega⟩
    have h1 : (((m + 3 : Nat) : Int) - 3).toNat = m := by omega
    have h2 : (((m + 3 : Nat) : Int) - 2).toNat = m + 1 := by omega
    have h3 : (((m + 3 : Nat) : Int) - 1).toNat = m + 2 := by omega
    have hx : c[(((m + 3 : Nat) : Int) - 3).toNat]? = some (c[m]'(by omega)) := by rw [h1]; exact List.getElem?_eq_getElem _
    have hy : c[(((m + 3 : Nat) : Int) - 2).toNat]? = some (c[m + 1]'(by omega)) := by rw [h2]; exact List.getElem?_eq_getElem _
    have hz : c[(((m + 3 : Nat) : Int) - 1).toNat]? = some (c[m + 2]'(by omega)) := by rw [h3]; exact List.getElem?_eq_getElem _
    have e1 := hep m (by omega)
    have e2 := hep (m + 1) (by omega)
    have e3 := hep (m + 2) (by omega)
    refine aW ?_
    first | refine aS (aB ?_) | refine aS (aS (aB ?_)) | refine aB ?_ | refine aS (aS (aS (aB ?_)))
    first | refine aS (aS (aS (aST (s' := mkSt 42 [(0, .v c), (3, .v ((m + 3 : Nat) : Int)), (39, .v (decide ((c[m]'(by omega)).epoch + 1 = (c[m + 1]'(by omega)).epoch) && decide ((c[m + 1]'(by omega)).epoch + 1 = (c[m + 2]'(by omega)).epoch)))] []) ?_ ?_))) | refine aS (aS (aST (s' := mkSt 42 [(0, .v c), (3, .v ((m + 3 : Nat) : Int)), (39, .v (decide ((c[m]'(by omega)).epoch + 1 = (c[m + 1]'(by omega)).epoch) && decide ((c[m + 1]'(by omega)).epoch + 1 = (c[m + 2]'(by omega)).epoch)))] []) ?_ ?_)) | refine aS (aST (s' := mkSt 42 [(0, .v c), (3, .v ((m + 3 : Nat) : Int)), (39, .v (decide ((c[m]'(by omega)).epoch + 1 = (c[m + 1]'(by omega)).epoch) && decide ((c[m + 1]'(by omega)).epoch + 1 = (c[m + 2]'(by omega)).epoch)))] []) ?_ ?_) | refine aST (s' := mkSt 42 [(0, .v c), (3, .v ((m + 3 : Nat) : Int)), (39, .v (decide ((c[m]'(by omega)).epoch + 1 = (c[m + 1]'(by omega)).epoch) && decide ((c[m + 1]'(by omega)).epoch + 1 = (c[m + 2]'(by omega)).epoch)))] []) ?_ ?_ | refine awp_toB (s' := mkSt 42 [(0, .v c), (3, .v ((m + 3 : Nat) : Int)), (39, .v (decide ((c[m]'(by omega)).epoch + 1 = (c[m + 1]'(by omega)).epoch) && decide ((c[m + 1]'(by omega)).epoch + 1 = (c[m + 2]'(by omega)).epoch)))] []) ?_ ?_ | refine awp_to (s' := mkSt 42 [(0, .v c), (3, .v ((m + 3 : Nat) : Int)), (39, .v (decide ((c[m]'(by omega)).epoch + 1 = (c[m + 1]'(by omega)).epoch) && decide ((c[m + 1]'(by omega)).epoch + 1 = (c[m + 2]'(by omega)).epoch)))] []) ?_ ?_
    · all_goals first | refine aS (dS ?_) | refine aS (aS (dS ?_)) | refine dS ?_ | refine aS (aS (aS (dS ?_)))
      all_goals first | refine dC (oM rfl (Conv.of rfl) rfl) ?_ | refine dC (op_mvl rfl rfl rfl rfl) ?_ | refine dC (op_mvo rfl rfl rfl rfl) ?_
      all_goals first | refine dC (oM rfl (Conv.of rfl) rfl) ?_ | refine dC (op_mvl rfl rfl rfl rfl) ?_ | refine dC (op_mvo rfl rfl rfl rfl) ?_
      all_goals refine dC (op_sub rfl rfl rfl (by omega)) ?_
      all_goals first | refine dC (op_ix sl27 rfl rfl rfl (by omega) hx) ?_ | refine dC (op_ixA sl27 rfl rfl rfl rfl (by omega)) ?_
      all_goals first | refine dC (oF f143_0 rfl rfl) ?_ | refine dC (oFR f143_0 rfl rfl) ?_ | refine dC (oFE f143_0 rfl rfl) ?_
      all_goals first | refine dC (oD ty3 rfl rfl rfl) ?_ | refine dC (oDR ty3 rfl rfl) ?_ | refine dC (op_lde ty3 rfl rfl (by assumption) rfl) ?_ | refine dC (op_ldl ty3 rfl rfl rfl) ?_ | refine dC (op_ldd ty3 rfl rfl rfl) ?_ | refine dC (op_ldde ty3 rfl rfl (by assumption) rfl) ?_
      all_goals refine dC (oP rfl rfl rfl (by omega)) ?_
      all_goals first | refine dC (oM rfl (Conv.of rfl) rfl) ?_ | refine dC (op_mvl rfl rfl rfl rfl) ?_ | refine dC (op_mvo rfl rfl rfl rfl) ?_
      all_goals first | refine dC (oM rfl (Conv.of rfl) rfl) ?_ | refine dC (op_mvl rfl rfl rfl rfl) ?_ | refine dC (op_mvo rfl rfl rfl rfl) ?_
      all_goals refine dC (op_sub rfl rfl rfl (by omega)) ?_
      all_goals first | refine dC (op_ix sl27 rfl rfl rfl (by omega) hy) ?_ | refine dC (op_ixA sl27 rfl rfl rfl rfl (by omega)) ?_
      all_goals first | refine dC (oF f143_0 rfl rfl) ?_ | refine dC (oFR f143_0 rfl rfl) ?_ | refine dC (oFE f143_0 rfl rfl) ?_
      all_goals first | refine dC (oD ty3 rfl rfl rfl) ?_ | refine dC (oDR ty3 rfl rfl) ?_ | refine dC (op_lde ty3 rfl rfl (by assumption) rfl) ?_ | refine dC (op_ldl ty3 rfl rfl rfl) ?_ | refine dC (op_ldd ty3 rfl rfl rfl) ?_ | refine dC (op_ldde ty3 rfl rfl (by assumption) rfl) ?_
      all_goals refine dC (op_eql rfl rfl rfl) ?_
      all_goals first | refine dC (oM rfl (Conv.of rfl) rfl) ?_ | refine dC (op_mvl rfl rfl rfl rfl) ?_ | refine dC (op_mvo rfl rfl rfl rfl) ?_
      all_goals first | refine dr_lit (t := 24) (b := true) rfl ?_ | refine dr_lit (t := 24) (b := false) rfl ?_ | refine dr_ulit (t := 24) rfl ?_ | refine dr_split (t := 24) rfl (fun h => ?_) (fun h => ?_)
      all_goals first | refine dC (gF rfl rfl rfl rfl rfl) ?_ | refine dC (g_und rfl rfl rfl) ?_ | refine dC (gN rfl rfl rfl (oM rfl (Conv.of rfl) rfl)) ?_ | refine dC (gN rfl rfl rfl (op_mvl rfl rfl rfl rfl)) ?_ | refine dC (gN rfl rfl rfl (op_mvo rfl rfl rfl rfl)) ?_
      all_goals first | refine dC (gF rfl rfl rfl rfl rfl) ?_ | refine dC (g_und rfl rfl rfl) ?_ | refine dC (gN rfl rfl rfl (oM rfl (Conv.of rfl) rfl)) ?_ | refine dC (gN rfl rfl rfl (op_mvl rfl rfl rfl rfl)) ?_ | refine dC (gN rfl rfl rfl (op_mvo rfl rfl rfl rfl)) ?_
      all_goals first | refine dC (gF rfl rfl rfl rfl rfl) ?_ | refine dC (g_und rfl rfl rfl) ?_ | refine dC (gN rfl rfl rfl (op_sub rfl rfl rfl (by omega))) ?_
      all_goals first | refine dC (gF rfl rfl rfl rfl rfl) ?_ | refine dC (g_und rfl rfl rfl) ?_ | refine dC (gN rfl rfl rfl (op_ix sl27 rfl rfl rfl (by omega) hy)) ?_ | refine dC (gN rfl rfl rfl (op_ixA sl27 rfl rfl rfl rfl (by omega))) ?_
      all_goals first | refine dC (gF rfl rfl rfl rfl rfl) ?_ | refine dC (g_und rfl rfl rfl) ?_ | refine dC (gN rfl rfl rfl (oF f143_0 rfl rfl)) ?_ | refine dC (gN rfl rfl rfl (oFR f143_0 rfl rfl)) ?_ | refine dC (gN rfl rfl rfl (oFE f143_0 rfl rfl)) ?_
      all_goals first | refine dC (gF rfl rfl rfl rfl rfl) ?_ | refine dC (g_und rfl rfl rfl) ?_ | refine dC (gN rfl rfl rfl (oD ty3 rfl rfl rfl)) ?_ | refine dC (gN rfl rfl rfl (oDR ty3 rfl rfl)) ?_ | refine dC (gN rfl rfl rfl (op_lde ty3 rfl rfl (by assumption) rfl)) ?_ | refine dC (gN rfl rfl rfl (op_ldl ty3 rfl rfl rfl)) ?_ | refine dC (gN rfl rfl rfl (op_ldd ty3 rfl rfl rfl)) ?_ | refine dC (gN rfl rfl rfl (op_ldde ty3 rfl rfl (by assumption) rfl)) ?_
      all_goals first | refine dC (gF rfl rfl rfl rfl rfl) ?_ | refine dC (g_und rfl rfl rfl) ?_ | refine dC (gN rfl rfl rfl (oP rfl rfl rfl (by omega))) ?_
      all_goals first | refine dC (gF rfl rfl rfl rfl rfl) ?_ | refine dC (g_und rfl rfl rfl) ?_ | refine dC (gN rfl rfl rfl (oM rfl (Conv.of rfl) rfl)) ?_ | refine dC (gN rfl rfl rfl (op_mvl rfl rfl rfl rfl)) ?_ | refine dC (gN rfl rfl rfl (op_mvo rfl rfl rfl rfl)) ?_
      all_goals first | refine dC (gF rfl rfl rfl rfl rfl) ?_ | refine dC (g_und rfl rfl rfl) ?_ | refine dC (gN rfl rfl rfl (oM rfl (Conv.of rfl) rfl)) ?_ | refine dC (gN rfl rfl rfl (op_mvl rfl rfl rfl rfl)) ?_ | refine dC (gN rfl rfl rfl (op_mvo rfl rfl rfl rfl)) ?_
      all_goals first | refine dC (gF rfl rfl rfl rfl rfl) ?_ | refine dC (g_und rfl rfl rfl) ?_ | refine dC (gN rfl rfl rfl (op_sub rfl rfl rfl (by omega))) ?_
      all_goals first | refine dC (gF rfl rfl rfl rfl rfl) ?_ | refine dC (g_und rfl rfl rfl) ?_ | refine dC (gN rfl rfl rfl (op_ix sl27 rfl rfl rfl (by omega) hz)) ?_ | refine dC (gN rfl rfl rfl (op_ixA sl27 rfl rfl rfl rfl (by omega))) ?_
      all_goals first | refine dC (gF rfl rfl rfl rfl rfl) ?_ | refine dC (g_und rfl rfl rfl) ?_ | refine dC (gN rfl rfl rfl (oF f143_0 rfl rfl)) ?_ | refine dC (gN rfl rfl rfl (oFR f143_0 rfl rfl)) ?_ | refine dC (gN rfl rfl rfl (oFE f143_0 rfl rfl)) ?_
      all_goals first | refine dC (gF rfl rfl rfl rfl rfl) ?_ | refine dC (g_und rfl rfl rfl) ?_ | refine dC (gN rfl rfl rfl (oD ty3 rfl rfl rfl)) ?_ | refine dC (gN rfl rfl rfl (oDR ty3 rfl rfl)) ?_ | refine dC (gN rfl rfl rfl (op_lde ty3 rfl rfl (by assumption) rfl)) ?_ | refine dC (gN rfl rfl rfl (op_ldl ty3 rfl rfl rfl)) ?_ | refine dC (gN rfl rfl rfl (op_ldd ty3 rfl rfl rfl)) ?_ | refine dC (gN rfl rfl rfl (op_ldde ty3 rfl rfl (by assumption) rfl)) ?_
      all_goals first | refine dC (gF rfl rfl rfl rfl rfl) ?_ | refine dC (g_und rfl rfl rfl) ?_ | refine dC (gN rfl rfl rfl (op_eql rfl rfl rfl)) ?_
      all_goals refine dC (oQ rfl rfl rfl rfl) ?_
      all_goals refine dr_nil mixed rfl ?_
      all_goals exact Le.mk rfl (tle rfl (rfl) rfl (tle rfl (rfl) rfl (tle rfl (by first | rfl | (clear hall; simp_all; try (rw [Bool.eq_iff_iff]; simp))) rfl tln))) oln noS
    have hstep : finFrom c (m + 3) = if (decide ((c[m]'(by omega)).epoch + 1 = (c[m + 1]'(by omega)).epoch) && decide ((c[m + 1]'(by omega)).epoch + 1 = (c[m + 2]'(by omega)).epoch)) then ((m + 2 : Nat) : Int) else finFrom c (m + 2) := by
      have g1 : c[m]? = some (c[m]'(by omega)) := List.getElem?_eq_getElem _
      have g2 : c[m + 1]? = some (c[m + 1]'(by omega)) := List.getElem?_eq_getElem _
      have g3 : c[m + 2]? = some (c[m + 2]'(by omega)) := List.getElem?_eq_getElem _
      show (if _ then _ else _) = _
      simp only [show m + 2 - 2 = m by omega, show m + 2 - 1 = m + 1 by omega, g1, g2, g3, show (2 < m + 2 + 1) = True by simp, decide_true, Bool.true_and]
    first | refine aS (aC rfl (fun hb => ?_) (fun hb => ?_)) | refine aS (aS (aC rfl (fun hb => ?_) (fun hb => ?_))) | refine aC rfl (fun hb => ?_) (fun hb => ?_) | refine aS (aS (aS (aC rfl (fun hb => ?_) (fun hb => ?_))))
    · all_goals first | refine aS (aR ?_) | refine aS (aS (aR ?_)) | refine aR ?_ | refine aS (aS (aS (aR ?_)))
      all_goals first | refine oC (oM rfl (Conv.of rfl) rfl) ?_ | refine oC (op_mvl rfl rfl rfl rfl) ?_ | refine oC (op_mvo rfl rfl rfl rfl) ?_
      all_goals refine oC (op_sub rfl rfl rfl (by omega)) ?_
      all_goals first | refine oC (oA rfl (Conv.of rfl) rfl) ?_ | refine oC (op_asl rfl rfl rfl rfl) ?_ | refine oC (op_aso rfl rfl rfl rfl) ?_
      all_goals refine oN ?_
      refine aT ?_
      repeat first | refine rS ?_ | refine rB ?_
      refine finP (.v rfl (Conv.of rfl)) rfl ?_
      show AV.v _ = _
      rw [hall, hstep, hb, if_pos rfl, show ((m + 3 : Nat) : Int) - 1 = ((m + 2 : Nat) : Int) by omega]
    · refine aW ?_
      all_goals first | refine aS (aR ?_) | refine aS (aS (aR ?_)) | refine aR ?_ | refine aS (aS (aS (aR ?_)))
      all_goals first | refine oC (oM rfl (Conv.of rfl) rfl) ?_ | refine oC (op_mvl rfl rfl rfl rfl) ?_ | refine oC (op_mvo rfl rfl rfl rfl) ?_
      all_goals refine oC (op_sub rfl rfl rfl (by omega)) ?_
      all_goals first | refine oC (oA rfl (Conv.of rfl) rfl) ?_ | refine oC (op_asl rfl rfl rfl rfl) ?_ | refine oC (op_aso rfl rfl rfl rfl) ?_
      all_goals refine oN ?_
      repeat first | refine nS ?_ | refine nB ?_
      exact ⟨m + 2, _, by omega, ⟨m + 2, rfl, by omega, by rw [hall, hstep, hb]; rfl, rfl⟩, Le.mk rfl (tle rfl (rfl) rfl (tle rfl (by first | rfl | (show AV.v _ = AV.v _; congr 1; omega)) rfl tln)) oln noS⟩
  · refine aE ?_
    repeat refine ex_seq ?_
    refine eB ?_
    have hk2 : k ≤ 2 := by simp at h; omega
    all_goals first | refine aS (aR ?_) | refine aS (aS (aR ?_)) | refine aR ?_ | refine aS (aS (aS (aR ?_)))
    all_goals refine oC (oA rfl (Conv.of rfl) rfl) ?_
    all_goals refine oN ?_
    refine aT ?_
    repeat first | refine rS ?_ | refine rB ?_
    refine finP (.v rfl (Conv.of rfl)) rfl ?_
    show AV.v (0 : Int) = _
    rw [hall]
    match k, hk2 with
    | 0, _ => rfl
    | 1, _ => rfl
    | 2, _ => rfl
end Go.Proofs.YtmhmeppocbcmeaaGreat

/- Nodes. -/
set_option linter.unusedVariables false
set_option linter.unusedSimpArgs false
namespace Go.Proofs.YtmhmeppocbcmeaaGreat
open Go Go.Wt
theorem lateFn_ct (v : Vote) (hv : 0 < v.chain.length) (hO : Nat → Wt.Obj) (n : Nod) (ho : hO 0 = .cell n) (hf : hO 9 = .free) (hH : ∀ o, obOk (pH hO) (hO o)) :
    Ct Tryz.prog 149 [.v v, .box 0 (IsLens.whole Nod)] hO (fun r1 h1 => r1 = .v (late n v) ∧ h1 = hO) := by
  refine Ct.intro Tryz.func149 rfl rfl ?_
  all_goals refine aS (aR ?_)
  all_goals refine oC (op_box (o := 9) ty38 rfl (Conv.of rfl) hf rfl) ?_
  all_goals refine oC (oA rfl (Conv.of rfl) rfl) ?_
  all_goals refine oN ?_
  all_goals refine aS (dS ?_)
  all_goals refine dC (oF f38_0 rfl rfl) ?_
  all_goals refine dC (oD ty3 rfl rfl rfl) ?_
  all_goals refine dC (oF f90_0 rfl rfl) ?_
  all_goals refine dC (oD ty3 rfl ho rfl) ?_
  all_goals refine dC (op_eql rfl rfl rfl) ?_
  all_goals refine dC (oM rfl (Conv.of rfl) rfl) ?_
  all_goals refine dr_split (t := 9) rfl (fun h => ?_) (fun h => ?_)
  all_goals first | refine dC (gF rfl rfl rfl rfl rfl) ?_ | refine dC (gN rfl rfl rfl (oD ty38 rfl rfl rfl)) ?_
  all_goals first | refine dC (gF rfl rfl rfl rfl rfl) ?_ | refine dC (gN rfl rfl rfl (oL fb150 (.cons rfl (Conv.of rfl) (.nil _)) (last_ct _ hv) (aK rfl rfl aK0) rfl rfl)) ?_
  all_goals first | refine dC (gF rfl rfl rfl rfl rfl) ?_ | refine dC (gN rfl rfl rfl (oF f90_2 rfl rfl)) ?_
  all_goals first | refine dC (gF rfl rfl rfl rfl rfl) ?_ | refine dC (gN rfl rfl rfl (oD ty3 rfl ho rfl)) ?_
  all_goals first | refine dC (gF rfl rfl rfl rfl rfl) ?_ | refine dC (gN rfl rfl rfl (op_gtr rfl rfl rfl)) ?_
  all_goals refine dC (oQ rfl rfl rfl rfl) ?_
  all_goals refine dC (oA rfl (Conv.of rfl) rfl) ?_
  all_goals refine dr_nil mixed rfl ?_
  all_goals refine aT ?_
  all_goals refine finF (.v rfl (Conv.of rfl)) rfl ?_ (by intro o ho; by_cases e : o = 9 <;> first | (exfalso; subst e; rw [hf] at ho; exact absurd ho (by decide)) | simp only [st0, St.upd, lk, orr, if_neg e]) hH
  all_goals (simp_all [FV.av, late])
theorem nodeOk_ct (n : Nod) : CtP Tryz.prog 100 [.v n] (.v (nodeOk n)) := by
  refine Ct.intro Tryz.func100 rfl rfl ?_
  all_goals refine aS (aR ?_)
  all_goals refine oC (op_box (o := 0) ty90 rfl (Conv.of rfl) rfl rfl) ?_
  all_goals refine oC (oA rfl (Conv.of rfl) rfl) ?_
  all_goals refine oN ?_
  refine aS (aST (s' := mkSt 38 [(1, .box 0 (IsLens.whole Nod)), (32, .v (!nodeOk0 n))] [(0, .cell n)]) ?_ ?_)
  · all_goals refine aR ?_
    all_goals refine oC (oF f90_0 rfl rfl) ?_
    all_goals refine oC (oD ty3 rfl rfl rfl) ?_
    all_goals refine oC (oL fb112 (.cons rfl (Conv.of rfl) (.nil _)) (nodeIdOk_ct _) (aK rfl rfl aK0) rfl rfl) ?_
    all_goals refine oC (op_not rfl rfl) ?_
    all_goals refine oC (oM rfl (Conv.of rfl) rfl) ?_
    all_goals refine g_split (t := 7) rfl (fun h => ?_) (fun h => ?_)
    all_goals first | refine oC (gF rfl rfl rfl rfl rfl) ?_ | refine oC (gN rfl rfl rfl (oF f90_1 rfl rfl)) ?_
    all_goals first | refine oC (gF rfl rfl rfl rfl rfl) ?_ | refine oC (gN rfl rfl rfl (oD ty3 rfl rfl rfl)) ?_
    all_goals first | refine oC (gF rfl rfl rfl rfl rfl) ?_ | refine oC (gN rfl rfl rfl (oL fb98 (.cons rfl (Conv.of rfl) (.cons rfl (Conv.of rfl) (.cons rfl (Conv.of rfl) (.nil _)))) (within_ct _ _ _) (aK rfl rfl (aK rfl rfl (aK rfl rfl aK0))) rfl rfl)) ?_
    all_goals first | refine oC (gF rfl rfl rfl rfl rfl) ?_ | refine oC (gN rfl rfl rfl (op_not rfl rfl)) ?_
    all_goals refine oC (oQ rfl rfl rfl rfl) ?_
    all_goals refine oC (oM rfl (Conv.of rfl) rfl) ?_
    all_goals first | refine g_lit (t := 13) (b := true) rfl ?_ | refine g_split (t := 13) rfl (fun h => ?_) (fun h => ?_)
    all_goals first | refine oC (gF rfl rfl rfl rfl rfl) ?_ | refine oC (gN rfl rfl rfl (oF f90_2 rfl rfl)) ?_
    all_goals first | refine oC (gF rfl rfl rfl rfl rfl) ?_ | refine oC (gN rfl rfl rfl (oD ty3 rfl rfl rfl)) ?_
    all_goals first | refine oC (gF rfl rfl rfl rfl rfl) ?_ | refine oC (gN rfl rfl rfl (oF f90_1 rfl rfl)) ?_
    all_goals first | refine oC (gF rfl rfl rfl rfl rfl) ?_ | refine oC (gN rfl rfl rfl (oD ty3 rfl rfl rfl)) ?_
    all_goals first | refine oC (gF rfl rfl rfl rfl rfl) ?_ | refine oC (gN rfl rfl rfl (oL fb98 (.cons rfl (Conv.of rfl) (.cons rfl (Conv.of rfl) (.cons rfl (Conv.of rfl) (.nil _)))) (within_ct _ _ _) (aK rfl rfl (aK rfl rfl (aK rfl rfl aK0))) rfl rfl)) ?_
    all_goals first | refine oC (gF rfl rfl rfl rfl rfl) ?_ | refine oC (gN rfl rfl rfl (op_not rfl rfl)) ?_
    all_goals refine oC (oQ rfl rfl rfl rfl) ?_
    all_goals refine oC (oM rfl (Conv.of rfl) rfl) ?_
    all_goals first | refine g_lit (t := 21) (b := true) rfl ?_ | refine g_split (t := 21) rfl (fun h => ?_) (fun h => ?_)
    all_goals first | refine oC (gF rfl rfl rfl rfl rfl) ?_ | refine oC (gN rfl rfl rfl (oF f90_3 rfl rfl)) ?_
    all_goals first | refine oC (gF rfl rfl rfl rfl rfl) ?_ | refine oC (gN rfl rfl rfl (oD ty24 rfl rfl rfl)) ?_
    all_goals first | refine oC (gF rfl rfl rfl rfl rfl) ?_ | refine oC (gN rfl rfl rfl (oE sl24 rfl rfl)) ?_
    all_goals first | refine oC (gF rfl rfl rfl rfl rfl) ?_ | refine oC (gN rfl rfl rfl (op_gtr rfl rfl rfl)) ?_
    all_goals refine oC (oQ rfl rfl rfl rfl) ?_
    all_goals refine oC (oM rfl (Conv.of rfl) rfl) ?_
    all_goals first | refine g_lit (t := 27) (b := true) rfl ?_ | refine g_split (t := 27) rfl (fun h => ?_) (fun h => ?_)
    all_goals first | refine oC (gF rfl rfl rfl rfl rfl) ?_ | refine oC (gN rfl rfl rfl (oF f90_3 rfl rfl)) ?_
    all_goals first | refine oC (gF rfl rfl rfl rfl rfl) ?_ | refine oC (gN rfl rfl rfl (oD ty24 rfl rfl rfl)) ?_
    all_goals first | refine oC (gF rfl rfl rfl rfl rfl) ?_ | refine oC (gN rfl rfl rfl (oL fb99 (.cons rfl (Conv.of rfl) (.nil _)) (votesOk_ct _) (aK rfl rfl aK0) rfl rfl)) ?_
    all_goals first | refine oC (gF rfl rfl rfl rfl rfl) ?_ | refine oC (gN rfl rfl rfl (op_not rfl rfl)) ?_
    all_goals refine oC (oQ rfl rfl rfl rfl) ?_
    all_goals refine oN ?_
    all_goals exact Le.mk rfl (tlb rfl rfl rfl (tle rfl (by (simp_all [nodeOk0] <;> omega)) rfl tln)) (olk rfl (by exact bC) oln) noS
  refine aC rfl (fun h => ?_) (fun h => ?_)
  · all_goals refine aS (aR ?_)
    all_goals refine oC (oA rfl (Conv.of rfl) rfl) ?_
    all_goals refine oN ?_
    refine aT ?_
    repeat first | refine rS ?_ | refine rB ?_
    refine finP (.v rfl (Conv.of rfl)) rfl ?_
    show AV.v false = _
    simp [nodeOk, not_t h]
  · refine aW ?_
    have h0 := not_f h
    have hvo : votesOk n.seen = true := by simp only [nodeOk0, Bool.and_eq_true] at h0; exact h0.2
    all_goals refine aS (aR ?_)
    all_goals refine oC (oF f90_3 rfl rfl) ?_
    all_goals refine oC (oD ty24 rfl rfl rfl) ?_
    all_goals refine oC (op_mf (f := 149) .nil (.cons (r := .box 0 (IsLens.whole Nod)) rfl (Conv.of rfl) .nil) rfl) ?_
    all_goals refine awpOps_callH rfl (fb44) (.cons rfl (Conv.of rfl) (.cons rfl (Conv.of rfl) (.nil _))) rfl (containsV_ct _ _ [] [.box 0 (IsLens.whole Nod)] _ (late n) (fb149) (fun x hx => lateFn_ct x (voteOk_pos (votesOk_mem hvo x hx)) _ n rfl rfl (fun o => by by_cases e : o = 0 <;> simp [mkSt, st0, St.upd, lk, lk0, orr, e, obOk, noObj] <;> exact plain_refs _)) (by intro z hz; simp [avs, FV.av] at hz; subst hz; exact ⟨rfl, fun o ho => by simp [AV.refs] at ho; subst ho; rfl⟩) (fun o => by by_cases e : o = 0 <;> simp [mkSt, st0, St.upd, lk, lk0, orr, e, obOk, noObj] <;> exact plain_refs _)) (Hand.none (Hand.l1 (Hand.of rfl rfl) (Hand.l1 ⟨rfl, fun o ho => by simp [AV.refs, FV.refs] at ho; subst ho; rfl⟩ Hand.l0))) (fun o => by by_cases e : o = 0 <;> simp [mkSt, st0, St.upd, lk, lk0, orr, e, obOk, noObj] <;> exact plain_refs _) rfl rfl ?_
    all_goals refine oC (op_not rfl rfl) ?_
    all_goals refine oC (oA rfl (Conv.of rfl) rfl) ?_
    all_goals refine oN ?_
    refine aT ?_
    repeat first | refine rS ?_ | refine rB ?_
    refine finP (.v rfl (Conv.of rfl)) rfl ?_
    show AV.v _ = _
    rw [nodeOk, h0, Bool.true_and]
end Go.Proofs.YtmhmeppocbcmeaaGreat

/- A node hears a vote. -/
set_option linter.unusedVariables false
set_option linter.unusedSimpArgs false
namespace Go.Proofs.YtmhmeppocbcmeaaGreat
open Go Go.Wt
end Go.Proofs.YtmhmeppocbcmeaaGreat

/- Worlds. -/
set_option linter.unusedVariables false
set_option linter.unusedSimpArgs false
namespace Go.Proofs.YtmhmeppocbcmeaaGreat
open Go Go.Wt
end Go.Proofs.YtmhmeppocbcmeaaGreat

/- What happens in a world. -/
set_option linter.unusedVariables false
set_option linter.unusedSimpArgs false
namespace Go.Proofs.YtmhmeppocbcmeaaGreat
open Go Go.Wt
end Go.Proofs.YtmhmeppocbcmeaaGreat

/- Plays. -/
set_option linter.unusedVariables false
set_option linter.unusedSimpArgs false
namespace Go.Proofs.YtmhmeppocbcmeaaGreat
open Go Go.Wt
end Go.Proofs.YtmhmeppocbcmeaaGreat

/- Worlds copied. -/
set_option linter.unusedVariables false
set_option linter.unusedSimpArgs false
namespace Go.Proofs.YtmhmeppocbcmeaaGreat
open Go Go.Wt
end Go.Proofs.YtmhmeppocbcmeaaGreat

/- A play. -/
set_option linter.unusedVariables false
set_option linter.unusedSimpArgs false
namespace Go.Proofs.YtmhmeppocbcmeaaGreat
open Go Go.Wt
end Go.Proofs.YtmhmeppocbcmeaaGreat

/- The reference: payments, chains, votes. -/
set_option linter.unusedVariables false
set_option linter.unusedSimpArgs false
namespace Go.Proofs.YtmhmeppocbcmeaaGreat
open Go Go.Wt
theorem l6In_ct (n lo hi : Int) : CtP Tryz.prog 50 [.v n, .v lo, .v hi] (.v (within n lo hi)) := by
  refine Ct.intro Tryz.func50 rfl rfl ?_
  all_goals refine aS (aR ?_)
  all_goals refine oC (oA rfl (Conv.of rfl) rfl) ?_
  all_goals refine oN ?_
  all_goals refine aS (aR ?_)
  all_goals refine oC (oM rfl (Conv.of rfl) rfl) ?_
  all_goals refine oC (oM rfl (Conv.of rfl) rfl) ?_
  all_goals refine oC (op_geq rfl rfl rfl) ?_
  all_goals refine oC (oM rfl (Conv.of rfl) rfl) ?_
  all_goals refine g_split (t := 10) rfl (fun h => ?_) (fun h => ?_)
  all_goals first | refine oC (gF rfl rfl rfl rfl rfl) ?_ | refine oC (gN rfl rfl rfl (oM rfl (Conv.of rfl) rfl)) ?_
  all_goals first | refine oC (gF rfl rfl rfl rfl rfl) ?_ | refine oC (gN rfl rfl rfl (oM rfl (Conv.of rfl) rfl)) ?_
  all_goals first | refine oC (gF rfl rfl rfl rfl rfl) ?_ | refine oC (gN rfl rfl rfl (op_leq rfl rfl rfl)) ?_
  all_goals refine oC (oQ rfl rfl rfl rfl) ?_
  all_goals refine oC (oA rfl (Conv.of rfl) rfl) ?_
  all_goals refine oN ?_
  all_goals refine aT ?_
  all_goals refine finP (.v rfl (Conv.of rfl)) rfl ?_
  all_goals (simp only [FV.av, within]; first | (rw [h]; rfl) | simp_all)
theorem sPayOk_ct (p : Pay) : CtP Tryz.prog 132 [.v p] (.v (payOk p)) := by
  refine Ct.intro Tryz.func132 rfl rfl ?_
  all_goals refine aS (aR ?_)
  all_goals refine oC (op_box (o := 0) ty75 rfl (Conv.of rfl) rfl rfl) ?_
  all_goals refine oC (oA rfl (Conv.of rfl) rfl) ?_
  all_goals refine oN ?_
  all_goals refine aS (aR ?_)
  all_goals refine oC (oF f75_0 rfl rfl) ?_
  all_goals refine oC (oD ty3 rfl rfl rfl) ?_
  all_goals refine oC (oL fb50 (.cons rfl (Conv.of rfl) (.cons rfl (Conv.of rfl) (.cons rfl (Conv.of rfl) (.nil _)))) (l6In_ct _ _ _) (aK rfl rfl (aK rfl rfl (aK rfl rfl aK0))) rfl rfl) ?_
  all_goals refine oC (oM rfl (Conv.of rfl) rfl) ?_
  all_goals refine g_split (t := 6) rfl (fun h => ?_) (fun h => ?_)
  all_goals first | refine oC (gF rfl rfl rfl rfl rfl) ?_ | refine oC (gN rfl rfl rfl (oF f75_1 rfl rfl)) ?_
  all_goals first | refine oC (gF rfl rfl rfl rfl rfl) ?_ | refine oC (gN rfl rfl rfl (oD ty3 rfl rfl rfl)) ?_
  all_goals first | refine oC (gF rfl rfl rfl rfl rfl) ?_ | refine oC (gN rfl rfl rfl (oL fb50 (.cons rfl (Conv.of rfl) (.cons rfl (Conv.of rfl) (.cons rfl (Conv.of rfl) (.nil _)))) (l6In_ct _ _ _) (aK rfl rfl (aK rfl rfl (aK rfl rfl aK0))) rfl rfl)) ?_
  all_goals refine oC (oQ rfl rfl rfl rfl) ?_
  all_goals refine oC (oM rfl (Conv.of rfl) rfl) ?_
  all_goals first | refine g_lit (t := 11) (b := false) rfl ?_ | refine g_split (t := 11) rfl (fun h => ?_) (fun h => ?_)
  all_goals first | refine oC (gF rfl rfl rfl rfl rfl) ?_ | refine oC (gN rfl rfl rfl (oF f75_0 rfl rfl)) ?_
  all_goals first | refine oC (gF rfl rfl rfl rfl rfl) ?_ | refine oC (gN rfl rfl rfl (oD ty3 rfl rfl rfl)) ?_
  all_goals first | refine oC (gF rfl rfl rfl rfl rfl) ?_ | refine oC (gN rfl rfl rfl (oF f75_1 rfl rfl)) ?_
  all_goals first | refine oC (gF rfl rfl rfl rfl rfl) ?_ | refine oC (gN rfl rfl rfl (oD ty3 rfl rfl rfl)) ?_
  all_goals first | refine oC (gF rfl rfl rfl rfl rfl) ?_ | refine oC (gN rfl rfl rfl (op_neq rfl rfl rfl)) ?_
  all_goals refine oC (oQ rfl rfl rfl rfl) ?_
  all_goals refine oC (oM rfl (Conv.of rfl) rfl) ?_
  all_goals first | refine g_lit (t := 18) (b := false) rfl ?_ | refine g_split (t := 18) rfl (fun h => ?_) (fun h => ?_)
  all_goals first | refine oC (gF rfl rfl rfl rfl rfl) ?_ | refine oC (gN rfl rfl rfl (oF f75_2 rfl rfl)) ?_
  all_goals first | refine oC (gF rfl rfl rfl rfl rfl) ?_ | refine oC (gN rfl rfl rfl (oD ty3 rfl rfl rfl)) ?_
  all_goals first | refine oC (gF rfl rfl rfl rfl rfl) ?_ | refine oC (gN rfl rfl rfl (oL fb50 (.cons rfl (Conv.of rfl) (.cons rfl (Conv.of rfl) (.cons rfl (Conv.of rfl) (.nil _)))) (l6In_ct _ _ _) (aK rfl rfl (aK rfl rfl (aK rfl rfl aK0))) rfl rfl)) ?_
  all_goals refine oC (oQ rfl rfl rfl rfl) ?_
  all_goals refine oC (oA rfl (Conv.of rfl) rfl) ?_
  all_goals refine oN ?_
  all_goals refine aT ?_
  all_goals refine finP (.v rfl (Conv.of rfl)) rfl ?_
  all_goals simp_all [FV.av, payOk]
set_option maxHeartbeats 1000000 in
theorem sChainOk_ct (c : List Itm) : CtP Tryz.prog 104 [.v c] (.v (chainOk c)) := by
  refine Ct.intro Tryz.func104 rfl rfl ?_
  refine awp_bigL 0 rfl (fun hB => ?_)
  all_goals refine aS (aR ?_)
  all_goals refine oC (oA rfl (Conv.of rfl) rfl) ?_
  all_goals refine oN ?_
  all_goals refine aS (aS (aR ?_))
  all_goals refine oC (oA rfl (Conv.of rfl) rfl) ?_
  all_goals refine oN ?_
  refine aB ?_
  refine awp_loop' (fun n s => ∃ (k : Nat), ∃ (hn : n + k = c.length), ∃ (hall : ∀ (j : Nat) (x : Itm), j < k → c[j]? = some x → itemOk c j x = true), s = mkSt 47 [(0, .v c), (3, .v (k : Int))] []) (c.length) ⟨0, by omega, fun j x h => by omega, rfl⟩ (Le.mk rfl (tle rfl (rfl) rfl (tle rfl (rfl) rfl tln)) oln noS) ?_
  rintro n s ⟨k, hn, hall, rfl⟩
  all_goals refine aS (aS (aR ?_))
  all_goals refine oC (oM rfl (Conv.of rfl) rfl) ?_
  all_goals refine oC (oM rfl (Conv.of rfl) rfl) ?_
  all_goals refine oC (oE sl27 rfl rfl) ?_
  all_goals refine oC (oLt rfl rfl rfl) ?_
  all_goals refine oN ?_
  refine aC rfl (fun h => ?_) (fun h => ?_)
  · have hlt : k < c.length := by simpa using h
    have hx : c[k]? = some c[k] := List.getElem?_eq_getElem hlt
    refine aW ?_
    refine aS (aB ?_)
    have hprev : decide ((0 : Int) < k) = true → 0 ≤ (k : Int) - 1 ∧ c[((k : Int) - 1).toNat]? = some (c[k - 1]'(by omega)) := by
      intro h0
      have h1 : 0 < k := by simpa using h0
      have e : ((k : Int) - 1).toNat = k - 1 := by omega
      exact ⟨by omega, by rw [e]; exact List.getElem?_eq_getElem (by omega)⟩
    refine aST (s' := mkSt 47 [(0, .v c), (3, .v (k : Int)), (43, .v (!itemOk c k c[k]))] []) ?_ ?_
    · all_goals refine dS ?_
      all_goals refine dC (oM rfl (Conv.of rfl) rfl) ?_
      all_goals refine dC (oM rfl (Conv.of rfl) rfl) ?_
      all_goals refine dC (op_ix sl27 rfl rfl rfl (by omega) hx) ?_
      all_goals refine dC (oFR f143_0 rfl rfl) ?_
      all_goals refine dC (oDR ty3 rfl rfl) ?_
      all_goals refine dC (oL fb50 (.cons rfl (Conv.of rfl) (.cons rfl (Conv.of rfl) (.cons rfl (Conv.of rfl) (.nil _)))) (l6In_ct _ _ _) (aK rfl rfl (aK rfl rfl (aK rfl rfl aK0))) rfl rfl) ?_
      all_goals refine dC (op_not rfl rfl) ?_
      all_goals refine dC (oM rfl (Conv.of rfl) rfl) ?_
      all_goals refine dr_split (t := 17) rfl (fun h => ?_) (fun h => ?_)
      all_goals first | refine dC (gF rfl rfl rfl rfl rfl) ?_ | refine dC (gN rfl rfl rfl (oM rfl (Conv.of rfl) rfl)) ?_
      all_goals first | refine dC (gF rfl rfl rfl rfl rfl) ?_ | refine dC (gN rfl rfl rfl (oM rfl (Conv.of rfl) rfl)) ?_
      all_goals first | refine dC (gF rfl rfl rfl rfl rfl) ?_ | refine dC (gN rfl rfl rfl (op_ix sl27 rfl rfl rfl (by omega) hx)) ?_
      all_goals first | refine dC (gF rfl rfl rfl rfl rfl) ?_ | refine dC (gN rfl rfl rfl (oFR f143_1 rfl rfl)) ?_
      all_goals first | refine dC (gF rfl rfl rfl rfl rfl) ?_ | refine dC (gN rfl rfl rfl (oDR ty75 rfl rfl)) ?_
      all_goals first | refine dC (gF rfl rfl rfl rfl rfl) ?_ | refine dC (gN rfl rfl rfl (oL fb132 (.cons rfl (Conv.of rfl) (.nil _)) (sPayOk_ct _) (aK rfl rfl aK0) rfl rfl)) ?_
      all_goals first | refine dC (gF rfl rfl rfl rfl rfl) ?_ | refine dC (gN rfl rfl rfl (op_not rfl rfl)) ?_
      all_goals refine dC (oQ rfl rfl rfl rfl) ?_
      all_goals refine dC (oM rfl (Conv.of rfl) rfl) ?_
      all_goals first | refine dr_lit (t := 26) (b := true) rfl ?_ | refine dr_split (t := 26) rfl (fun h => ?_) (fun h => ?_)
      all_goals first | refine dC (gF rfl rfl rfl rfl rfl) ?_ | refine dC (gN rfl rfl rfl (oM rfl (Conv.of rfl) rfl)) ?_
      all_goals first | refine dC (gF rfl rfl rfl rfl rfl) ?_ | refine dC (gN rfl rfl rfl (op_gtr rfl rfl rfl)) ?_
      all_goals first | refine dC (gF rfl rfl rfl rfl rfl) ?_ | refine dC (gN rfl rfl rfl (oM rfl (Conv.of rfl) rfl)) ?_
      all_goals first | refine dr_ulit (t := 29) rfl ?_ | refine dr_split (t := 29) rfl (fun h => ?_) (fun h => ?_)
      all_goals first | refine dC (gF rfl rfl rfl rfl rfl) ?_ | refine dC (g_und rfl rfl rfl) ?_ | refine dC (gN rfl rfl rfl (oM rfl (Conv.of rfl) rfl)) ?_
      all_goals first | refine dC (gF rfl rfl rfl rfl rfl) ?_ | refine dC (g_und rfl rfl rfl) ?_ | refine dC (gN rfl rfl rfl (oM rfl (Conv.of rfl) rfl)) ?_
      all_goals first | refine dC (gF rfl rfl rfl rfl rfl) ?_ | refine dC (g_und rfl rfl rfl) ?_ | refine dC (gN rfl rfl rfl (op_sub rfl rfl rfl (by omega))) ?_
      all_goals first | refine dC (gF rfl rfl rfl rfl rfl) ?_ | refine dC (g_und rfl rfl rfl) ?_ | refine dC (gN rfl rfl rfl (op_ix sl27 rfl rfl rfl (hprev h).1 (hprev h).2)) ?_
      all_goals first | refine dC (gF rfl rfl rfl rfl rfl) ?_ | refine dC (g_und rfl rfl rfl) ?_ | refine dC (gN rfl rfl rfl (oFR f143_0 rfl rfl)) ?_
      all_goals first | refine dC (gF rfl rfl rfl rfl rfl) ?_ | refine dC (g_und rfl rfl rfl) ?_ | refine dC (gN rfl rfl rfl (oDR ty3 rfl rfl)) ?_
      all_goals first | refine dC (gF rfl rfl rfl rfl rfl) ?_ | refine dC (g_und rfl rfl rfl) ?_ | refine dC (gN rfl rfl rfl (oM rfl (Conv.of rfl) rfl)) ?_
      all_goals first | refine dC (gF rfl rfl rfl rfl rfl) ?_ | refine dC (g_und rfl rfl rfl) ?_ | refine dC (gN rfl rfl rfl (oM rfl (Conv.of rfl) rfl)) ?_
      all_goals first | refine dC (gF rfl rfl rfl rfl rfl) ?_ | refine dC (g_und rfl rfl rfl) ?_ | refine dC (gN rfl rfl rfl (op_ix sl27 rfl rfl rfl (by omega) hx)) ?_
      all_goals first | refine dC (gF rfl rfl rfl rfl rfl) ?_ | refine dC (g_und rfl rfl rfl) ?_ | refine dC (gN rfl rfl rfl (oFR f143_0 rfl rfl)) ?_
      all_goals first | refine dC (gF rfl rfl rfl rfl rfl) ?_ | refine dC (g_und rfl rfl rfl) ?_ | refine dC (gN rfl rfl rfl (oDR ty3 rfl rfl)) ?_
      all_goals first | refine dC (gF rfl rfl rfl rfl rfl) ?_ | refine dC (g_und rfl rfl rfl) ?_ | refine dC (gN rfl rfl rfl (op_geq rfl rfl rfl)) ?_
      all_goals first | refine dC (gF rfl rfl rfl rfl rfl) ?_ | refine dC (gN rfl rfl rfl (oQ rfl rfl rfl rfl)) ?_
      all_goals refine dC (oQ rfl rfl rfl rfl) ?_
      all_goals refine dr_nil mixed rfl ?_
      all_goals exact Le.mk rfl (tle rfl (rfl) rfl (tle rfl (rfl) rfl (tle rfl (by (clear hall; simp_all [itemOk_nat, List.getElem?_eq_getElem (show k - 1 < c.length by omega)])) rfl tln))) oln noS
    refine aC rfl (fun h => ?_) (fun h => ?_)
    · all_goals refine aS (aR ?_)
      all_goals refine oC (oA rfl (Conv.of rfl) rfl) ?_
      all_goals refine oN ?_
      refine aT ?_
      repeat first | refine rS ?_ | refine rB ?_
      refine finP (.v rfl (Conv.of rfl)) rfl ?_
      show AV.v false = _
      rw [chainOk_bad hx (not_t h)]
    · refine aW ?_
      all_goals refine aR ?_
      all_goals refine oC (oM rfl (Conv.of rfl) rfl) ?_
      all_goals refine oC (oP rfl rfl rfl (by omega)) ?_
      all_goals refine oC (oA rfl (Conv.of rfl) rfl) ?_
      all_goals refine oN ?_
      repeat first | refine nS ?_ | refine nB ?_
      exact ⟨n - 1, _, by omega, ⟨k + 1, by omega, fun j x hj hjx => chainOk_more hx hall (not_f h) hj hjx, rfl⟩, Le.mk rfl (tle rfl (rfl) rfl (tle rfl (rfl) rfl tln)) oln noS⟩
  · refine aE ?_
    repeat refine ex_seq ?_
    refine eB ?_
    all_goals refine aS (aR ?_)
    all_goals refine oC (oM rfl (Conv.of rfl) rfl) ?_
    all_goals refine oC (oE sl27 rfl rfl) ?_
    all_goals refine oC (op_leq rfl rfl rfl) ?_
    all_goals refine oC (oA rfl (Conv.of rfl) rfl) ?_
    all_goals refine oN ?_
    refine aT ?_
    repeat first | refine rS ?_ | refine rB ?_
    refine finP (.v rfl (Conv.of rfl)) rfl ?_
    show AV.v _ = _
    rw [chainOk_good (k := k) (by simpa using h) hall]
theorem l3Leader_ct (n : Int) (hn : -1000 ≤ n ∧ n ≤ 1000000) : CtP Tryz.prog 80 [.v n] (.v (leadS n)) := by
  have ht1 := Int.tmod_lt_of_pos (n - 1) (show (0 : Int) < 4 by omega)
  have ht2 : -4 < (n - 1).tmod 4 := Int.lt_tmod_of_pos (n - 1) (show (0 : Int) < 4 by omega)
  refine Ct.intro Tryz.func80 rfl rfl ?_
  refine aS (aR ?_)
  refine oC (oA rfl (Conv.of rfl) rfl) ?_
  refine oN ?_
  refine aS (aR ?_)
  refine oC (oM rfl (Conv.of rfl) rfl) ?_
  refine oC (op_sub rfl rfl rfl (by omega)) ?_
  refine oC (op_rem rfl rfl rfl (by decide)) ?_
  refine oC (oP rfl rfl rfl (by omega)) ?_
  refine oC (oA rfl (Conv.of rfl) rfl) ?_
  refine oN ?_
  refine aT ?_
  repeat first | refine rS ?_ | refine rB ?_
  exact finP (.v rfl (Conv.of rfl)) rfl rfl
theorem l1In_ct (a b : List Itm) : CtP Tryz.prog 166 [.v a, .v b] (.v (inS a b)) := by
  refine Ct.intro Tryz.func166 rfl rfl ?_
  refine awp_bigL 0 rfl (fun hB => ?_)
  refine aS (aR ?_)
  refine oC (oA rfl (Conv.of rfl) rfl) ?_
  refine oN ?_
  refine aS (aS (aR ?_))
  refine oC (oM rfl (Conv.of rfl) rfl) ?_
  refine oC (oE sl27 rfl rfl) ?_
  refine oC (oM rfl (Conv.of rfl) rfl) ?_
  refine oC (oE sl27 rfl rfl) ?_
  refine oC (op_gtr rfl rfl rfl) ?_
  refine oN ?_
  refine aC rfl (fun h => ?_) (fun h => ?_)
  · refine aS (aR ?_)
    refine oC (oA rfl (Conv.of rfl) rfl) ?_
    refine oN ?_
    refine aT ?_
    repeat first | refine rS ?_ | refine rB ?_
    refine finP (.v rfl (Conv.of rfl)) rfl ?_
    have : ¬ a.length ≤ b.length := by simp at h; omega
    simp [FV.av, inS, this]
  · have hlen : a.length ≤ b.length := by simp at h; omega
    refine aW ?_
    refine aS (aS (aR ?_))
    refine oC (oA rfl (Conv.of rfl) rfl) ?_
    refine oN ?_
    refine aB ?_
    refine awp_loop' (fun n s => ∃ (k : Nat), ∃ (hn : n + k = a.length), ∃ (hall : decide (a.take k = b.take k) = true), s = mkSt 26 [(0, .v a), (1, .v b), (5, .v (k : Int))] []) (a.length) ⟨0, by omega, rfl, rfl⟩ (Le.mk rfl (tle rfl (rfl) rfl (tle rfl (rfl) rfl (tle rfl (rfl) rfl tln))) oln noS) ?_
    rintro n s ⟨k, hn, hall, rfl⟩
    refine aS (aS (aR ?_))
    refine oC (oM rfl (Conv.of rfl) rfl) ?_
    refine oC (oM rfl (Conv.of rfl) rfl) ?_
    refine oC (oE sl27 rfl rfl) ?_
    refine oC (oLt rfl rfl rfl) ?_
    refine oN ?_
    refine aC rfl (fun h => ?_) (fun h => ?_)
    · have hlt : k < a.length := by simpa using h
      have hx : a[k]? = some a[k] := List.getElem?_eq_getElem hlt
      have hy : b[k]? = some (b[k]'(by omega)) := List.getElem?_eq_getElem (by omega)
      have hs := take_eq_at hx hy
      refine aW ?_
      refine aS (aB ?_)
      refine aS (dS ?_)
      refine dC (oM rfl (Conv.of rfl) rfl) ?_
      refine dC (oM rfl (Conv.of rfl) rfl) ?_
      refine dC (op_ix sl27 rfl rfl rfl (by omega) hx) ?_
      refine dC (oDR ty143 rfl rfl) ?_
      refine dC (oM rfl (Conv.of rfl) rfl) ?_
      refine dC (oM rfl (Conv.of rfl) rfl) ?_
      refine dC (op_ix sl27 rfl rfl rfl (by omega) hy) ?_
      refine dC (oDR ty143 rfl rfl) ?_
      refine dC (op_nea weq143 rfl rfl rfl) ?_
      refine dr_nil mixed rfl ?_
      refine aC rfl (fun h => ?_) (fun h => ?_)
      · refine aS (aR ?_)
        refine oC (oA rfl (Conv.of rfl) rfl) ?_
        refine oN ?_
        refine aT ?_
        repeat first | refine rS ?_ | refine rB ?_
        refine finP (.v rfl (Conv.of rfl)) rfl ?_
        have h' : ¬ a[k] = b[k] := by simpa using h
        have : ¬ a = b.take a.length := by
          intro e
          have e2 : a[k]? = (b.take a.length)[k]? := congrArg (fun l : List Itm => l[k]?) e
          rw [List.getElem?_take, if_pos hlt, hy, hx] at e2
          exact h' (Option.some.inj e2)
        simp [FV.av, inS, this]
      · refine aW ?_
        have h' : decide (a[k] = b[k]) = true := by simpa using h
        refine aR ?_
        refine oC (oM rfl (Conv.of rfl) rfl) ?_
        refine oC (oP rfl rfl rfl (by omega)) ?_
        refine oC (oA rfl (Conv.of rfl) rfl) ?_
        refine oN ?_
        repeat first | refine nS ?_ | refine nB ?_
        exact ⟨n - 1, _, by omega, ⟨k + 1, by omega, by rw [hs, hall, h']; rfl, rfl⟩, Le.mk rfl (tle rfl (rfl) rfl (tle rfl (rfl) rfl (tle rfl (rfl) rfl tln))) oln noS⟩
    · refine aE ?_
      repeat refine ex_seq ?_
      refine eB ?_
      have hk : k = a.length := by simp at h; omega
      subst hk
      refine aS (aR ?_)
      refine oC (oA rfl (Conv.of rfl) rfl) ?_
      refine oN ?_
      refine aT ?_
      repeat first | refine rS ?_ | refine rB ?_
      refine finP (.v rfl (Conv.of rfl)) rfl ?_
      rw [List.take_length] at hall
      have : a = b.take a.length := by simpa using hall
      simp [FV.av, inS, hlen, ← this]
theorem inS_same {a b : List Itm} (h : a.length = b.length) : inS a b = decide (a = b) := by
  unfold inS
  rw [show b.take a.length = b by rw [h, List.take_length]]
  simp [h]
theorem l3Same_ct (a b : List Itm) : CtP Tryz.prog 142 [.v a, .v b] (.v (decide (a = b))) := by
  refine Ct.intro Tryz.func142 rfl rfl ?_
  all_goals refine aS (aR ?_)
  all_goals refine oC (oA rfl (Conv.of rfl) rfl) ?_
  all_goals refine oN ?_
  all_goals refine aS (aR ?_)
  all_goals refine oC (oM rfl (Conv.of rfl) rfl) ?_
  all_goals refine oC (oE sl27 rfl rfl) ?_
  all_goals refine oC (oM rfl (Conv.of rfl) rfl) ?_
  all_goals refine oC (oE sl27 rfl rfl) ?_
  all_goals refine oC (op_eql rfl rfl rfl) ?_
  all_goals refine oC (oM rfl (Conv.of rfl) rfl) ?_
  all_goals refine g_split (t := 10) rfl (fun h => ?_) (fun h => ?_)
  all_goals first | refine oC (gF rfl rfl rfl rfl rfl) ?_ | refine oC (gN rfl rfl rfl (oM rfl (Conv.of rfl) rfl)) ?_
  all_goals first | refine oC (gF rfl rfl rfl rfl rfl) ?_ | refine oC (gN rfl rfl rfl (oM rfl (Conv.of rfl) rfl)) ?_
  all_goals first | refine oC (gF rfl rfl rfl rfl rfl) ?_ | refine oC (gN rfl rfl rfl (oL fb166 (.cons rfl (Conv.of rfl) (.cons rfl (Conv.of rfl) (.nil _))) (l1In_ct _ _) (aK rfl rfl (aK rfl rfl aK0)) rfl rfl)) ?_
  all_goals refine oC (oQ rfl rfl rfl rfl) ?_
  all_goals refine oC (oA rfl (Conv.of rfl) rfl) ?_
  all_goals refine oN ?_
  all_goals refine aT ?_
  all_goals refine finP (.v rfl (Conv.of rfl)) rfl ?_
  · have hl : a.length = b.length := by simp at h; omega
    simp only [FV.av]; congr 1
    exact inS_same hl
  · have hl : ¬ a.length = b.length := by simp at h; omega
    have : ¬ a = b := fun e => hl (by rw [e])
    simp [FV.av, this]
theorem l1Copy_ct (c : List Itm) (hc : c.length ≤ 1000000) : CtP Tryz.prog 107 [.v c] (.v (OList.mk c true)) := by
  refine Ct.intro Tryz.func107 rfl rfl ?_
  refine aS (aR ?_)
  refine oC (oA rfl (Conv.of rfl) rfl) ?_
  refine oN ?_
  refine aS (aR ?_)
  refine oC (op_bsl sl27 z143 (.nil _) rfl (by decide) rfl) ?_
  refine oC (oM rfl (Conv.of rfl) rfl) ?_
  refine oC (op_app sl27 z143 ul27 rfl rfl rfl (by (simp; omega)) (by (simp; omega)) rfl rfl) ?_
  refine oC (op_asl rfl rfl rfl rfl) ?_
  refine oN ?_
  refine aT ?_
  repeat first | refine rS ?_ | refine rB ?_
  exact finM rfl rfl (by simp)
theorem l3VoteCopy_ct (v : Vote) (hv : v.chain.length ≤ 1000000) : CtP Tryz.prog 160 [.v v] (.v v) := by
  refine Ct.intro Tryz.func160 rfl rfl ?_
  refine aS (aR ?_)
  refine oC (op_box (o := 0) ty38 rfl (Conv.of rfl) rfl rfl) ?_
  refine oC (oX (o := 1) z38 rfl rfl) ?_
  refine oN ?_
  refine aS (aR ?_)
  refine oC (oF f38_1 rfl rfl) ?_
  refine oC (oD ty27 rfl rfl rfl) ?_
  refine oC (oL fb107 (.cons rfl (Conv.of rfl) (.nil _)) (l1Copy_ct _ hv) (aK rfl rfl aK0) rfl rfl) ?_
  refine oC (oF f38_1 rfl rfl) ?_
  refine oC (op_st ty27 rfl rfl (Conv.ol) rfl) ?_
  refine oN ?_
  refine aS (aR ?_)
  refine oC (oD ty38 rfl rfl rfl) ?_
  refine oC (op_st ty38 rfl rfl (Conv.of rfl) rfl) ?_
  refine oN ?_
  refine aT ?_
  repeat first | refine rS ?_ | refine rB ?_
  exact finP (.rc ty38 rfl rfl) rfl rfl
theorem l3Vote_ct (v : Vote) : CtP Tryz.prog 108 [.v v] (.v (voteOk v)) := by
  refine Ct.intro Tryz.func108 rfl rfl ?_
  all_goals refine aS (aR ?_)
  all_goals refine oC (op_box (o := 0) ty38 rfl (Conv.of rfl) rfl rfl) ?_
  all_goals refine oC (oA rfl (Conv.of rfl) rfl) ?_
  all_goals refine oN ?_
  all_goals refine aS (aR ?_)
  all_goals refine oC (oF f38_0 rfl rfl) ?_
  all_goals refine oC (oD ty3 rfl rfl rfl) ?_
  all_goals refine oC (oL fb50 (.cons rfl (Conv.of rfl) (.cons rfl (Conv.of rfl) (.cons rfl (Conv.of rfl) (.nil _)))) (l6In_ct _ _ _) (aK rfl rfl (aK rfl rfl (aK rfl rfl aK0))) rfl rfl) ?_
  all_goals refine oC (oM rfl (Conv.of rfl) rfl) ?_
  all_goals refine g_split (t := 6) rfl (fun h => ?_) (fun h => ?_)
  all_goals first | refine oC (gF rfl rfl rfl rfl rfl) ?_ | refine oC (gN rfl rfl rfl (oF f38_1 rfl rfl)) ?_
  all_goals first | refine oC (gF rfl rfl rfl rfl rfl) ?_ | refine oC (gN rfl rfl rfl (oD ty27 rfl rfl rfl)) ?_
  all_goals first | refine oC (gF rfl rfl rfl rfl rfl) ?_ | refine oC (gN rfl rfl rfl (oL fb104 (.cons rfl (Conv.of rfl) (.nil _)) (sChainOk_ct _) (aK rfl rfl aK0) rfl rfl)) ?_
  all_goals refine oC (oQ rfl rfl rfl rfl) ?_
  all_goals refine oC (oM rfl (Conv.of rfl) rfl) ?_
  all_goals first | refine g_lit (t := 11) (b := false) rfl ?_ | refine g_split (t := 11) rfl (fun h => ?_) (fun h => ?_)
  all_goals first | refine oC (gF rfl rfl rfl rfl rfl) ?_ | refine oC (gN rfl rfl rfl (oF f38_1 rfl rfl)) ?_
  all_goals first | refine oC (gF rfl rfl rfl rfl rfl) ?_ | refine oC (gN rfl rfl rfl (oD ty27 rfl rfl rfl)) ?_
  all_goals first | refine oC (gF rfl rfl rfl rfl rfl) ?_ | refine oC (gN rfl rfl rfl (oE sl27 rfl rfl)) ?_
  all_goals first | refine oC (gF rfl rfl rfl rfl rfl) ?_ | refine oC (gN rfl rfl rfl (op_gtr rfl rfl rfl)) ?_
  all_goals refine oC (oQ rfl rfl rfl rfl) ?_
  all_goals refine oC (oA rfl (Conv.of rfl) rfl) ?_
  all_goals refine oN ?_
  all_goals refine aT ?_
  all_goals refine finP (.v rfl (Conv.of rfl)) rfl ?_
  all_goals (simp_all [FV.av, voteOk])
theorem l3Has_ct (l : List Vote) (v : Vote) : CtP Tryz.prog 106 [.v l, .v v] (.v (decide (v ∈ l))) := by
  refine Ct.intro Tryz.func106 rfl rfl ?_
  refine awp_bigL 0 rfl (fun hB => ?_)
  all_goals refine aS (aR ?_)
  all_goals refine oC (op_box (o := 0) ty38 rfl (Conv.of rfl) rfl rfl) ?_
  all_goals refine oC (oA rfl (Conv.of rfl) rfl) ?_
  all_goals refine oN ?_
  all_goals refine aS (aS (aR ?_))
  all_goals refine oC (oA rfl (Conv.of rfl) rfl) ?_
  all_goals refine oN ?_
  refine aB ?_
  refine awp_loop' (fun n s => ∃ (k : Nat), ∃ (hn : n + k = l.length), ∃ (hall : decide (v ∈ l) = decide (v ∈ l.drop k)), s = mkSt 30 [(0, .v l), (3, .box 0 (IsLens.whole Vote)), (5, .v (k : Int))] [(0, .cell v)]) (l.length) ⟨0, by omega, rfl, rfl⟩ (Le.mk rfl (tle rfl (rfl) rfl (tlb rfl rfl rfl (tle rfl (rfl) rfl tln))) (olk rfl (by exact bC) oln) noS) ?_
  rintro n s ⟨k, hn, hall, rfl⟩
  all_goals refine aS (aS (aR ?_))
  all_goals refine oC (oM rfl (Conv.of rfl) rfl) ?_
  all_goals refine oC (oM rfl (Conv.of rfl) rfl) ?_
  all_goals refine oC (oE sl24 rfl rfl) ?_
  all_goals refine oC (oLt rfl rfl rfl) ?_
  all_goals refine oN ?_
  refine aC rfl (fun h => ?_) (fun h => ?_)
  · have hlt : k < l.length := by simpa using h
    have hx : l[k]? = some l[k] := List.getElem?_eq_getElem hlt
    have hs := mem_take_at (v := v) hx
    refine aW ?_
    refine aS (aB ?_)
    refine aST (s' := mkSt 30 [(0, .v l), (3, .box 0 (IsLens.whole Vote)), (5, .v (k : Int)), (29, .v (decide (l[k] = v)))] [(0, .cell v)]) ?_ ?_
    · all_goals refine dS ?_
      all_goals refine dC (oM rfl (Conv.of rfl) rfl) ?_
      all_goals refine dC (oM rfl (Conv.of rfl) rfl) ?_
      all_goals refine dC (op_ix sl24 rfl rfl rfl (by omega) hx) ?_
      all_goals refine dC (oFR f38_0 rfl rfl) ?_
      all_goals refine dC (oDR ty3 rfl rfl) ?_
      all_goals refine dC (oF f38_0 rfl rfl) ?_
      all_goals refine dC (oD ty3 rfl rfl rfl) ?_
      all_goals refine dC (op_eql rfl rfl rfl) ?_
      all_goals refine dC (oM rfl (Conv.of rfl) rfl) ?_
      all_goals refine dr_split (t := 20) rfl (fun h => ?_) (fun h => ?_)
      all_goals first | refine dC (gF rfl rfl rfl rfl rfl) ?_ | refine dC (gN rfl rfl rfl (oM rfl (Conv.of rfl) rfl)) ?_
      all_goals first | refine dC (gF rfl rfl rfl rfl rfl) ?_ | refine dC (gN rfl rfl rfl (oM rfl (Conv.of rfl) rfl)) ?_
      all_goals first | refine dC (gF rfl rfl rfl rfl rfl) ?_ | refine dC (gN rfl rfl rfl (op_ix sl24 rfl rfl rfl (by omega) hx)) ?_
      all_goals first | refine dC (gF rfl rfl rfl rfl rfl) ?_ | refine dC (gN rfl rfl rfl (oFR f38_1 rfl rfl)) ?_
      all_goals first | refine dC (gF rfl rfl rfl rfl rfl) ?_ | refine dC (gN rfl rfl rfl (oDR ty27 rfl rfl)) ?_
      all_goals first | refine dC (gF rfl rfl rfl rfl rfl) ?_ | refine dC (gN rfl rfl rfl (oF f38_1 rfl rfl)) ?_
      all_goals first | refine dC (gF rfl rfl rfl rfl rfl) ?_ | refine dC (gN rfl rfl rfl (oD ty27 rfl rfl rfl)) ?_
      all_goals first | refine dC (gF rfl rfl rfl rfl rfl) ?_ | refine dC (gN rfl rfl rfl (oL fb142 (.cons rfl (Conv.of rfl) (.cons rfl (Conv.of rfl) (.nil _))) (l3Same_ct _ _) (aK rfl rfl (aK rfl rfl aK0)) rfl rfl)) ?_
      all_goals refine dC (oQ rfl rfl rfl rfl) ?_
      all_goals refine dr_nil mixed rfl ?_
      all_goals exact Le.mk rfl (tle rfl (rfl) rfl (tlb rfl rfl rfl (tle rfl (rfl) rfl (tle rfl (by (show AV.v _ = AV.v _; congr 1; clear hall hs; generalize l[k] = u at *; obtain ⟨u1, u2⟩ := u; obtain ⟨v1, v2⟩ := v; simp_all)) rfl tln)))) (olk rfl (by exact bC) oln) noS
    refine aC rfl (fun h => ?_) (fun h => ?_)
    · all_goals refine aS (aR ?_)
      all_goals refine oC (oA rfl (Conv.of rfl) rfl) ?_
      all_goals refine oN ?_
      refine aT ?_
      repeat first | refine rS ?_ | refine rB ?_
      refine finP (.v rfl (Conv.of rfl)) rfl ?_
      show AV.v true = _
      rw [hall, hs, h, Bool.true_or]
    · refine aW ?_
      all_goals refine aR ?_
      all_goals refine oC (oM rfl (Conv.of rfl) rfl) ?_
      all_goals refine oC (oP rfl rfl rfl (by omega)) ?_
      all_goals refine oC (oA rfl (Conv.of rfl) rfl) ?_
      all_goals refine oN ?_
      repeat first | refine nS ?_ | refine nB ?_
      exact ⟨n - 1, _, by omega, ⟨k + 1, by omega, by rw [hall, hs, h, Bool.false_or], rfl⟩, Le.mk rfl (tle rfl (rfl) rfl (tlb rfl rfl rfl (tle rfl (rfl) rfl tln))) (olk rfl (by exact bC) oln) noS⟩
  · refine aE ?_
    repeat refine ex_seq ?_
    refine eB ?_
    have hk : l.length ≤ k := by simpa using h
    all_goals refine aS (aR ?_)
    all_goals refine oC (oA rfl (Conv.of rfl) rfl) ?_
    all_goals refine oN ?_
    refine aT ?_
    repeat first | refine rS ?_ | refine rB ?_
    refine finP (.v rfl (Conv.of rfl)) rfl ?_
    show AV.v false = _
    rw [hall, drop_end hk]; simp
theorem l3Many_ct (l : List Vote) (c : List Itm) : CtP Tryz.prog 167 [.v l, .v c] (.v (many l c)) := by
  refine Ct.intro Tryz.func167 rfl rfl ?_
  refine awp_bigL 0 rfl (fun hB => ?_)
  refine aS (aR ?_)
  refine oC (oA rfl (Conv.of rfl) rfl) ?_
  refine oN ?_
  refine aS (aR ?_)
  refine oC (oA rfl (Conv.of rfl) rfl) ?_
  refine oN ?_
  refine aS (aS (aR ?_))
  refine oC (oA rfl (Conv.of rfl) rfl) ?_
  refine oN ?_
  refine aB ?_
  refine awp_loop' (fun n s => ∃ (k : Nat), ∃ (m : Int), ∃ (hn : n + k = l.length), ∃ (hm : 0 ≤ m ∧ m ≤ k), ∃ (hall : many l c = manyFrom c (l.drop k) m), s = mkSt 23 [(0, .v l), (1, .v c), (5, .v m), (6, .v (k : Int))] []) (l.length) ⟨0, (0 : Int), by omega, by omega, rfl, rfl⟩ (Le.mk rfl (tle rfl (rfl) rfl (tle rfl (rfl) rfl (tle rfl (rfl) rfl (tle rfl (rfl) rfl tln)))) oln noS) ?_
  rintro n s ⟨k, m, hn, hm, hall, rfl⟩
  refine aS (aS (aR ?_))
  refine oC (oM rfl (Conv.of rfl) rfl) ?_
  refine oC (oM rfl (Conv.of rfl) rfl) ?_
  refine oC (oE sl24 rfl rfl) ?_
  refine oC (oLt rfl rfl rfl) ?_
  refine oN ?_
  refine aC rfl (fun h => ?_) (fun h => ?_)
  · have hlt : k < l.length := by simpa using h
    have hx : l[k]? = some l[k] := List.getElem?_eq_getElem hlt
    have hs := many_drop (c := c) hx m
    refine aW ?_
    refine aS (aB ?_)
    refine aS (aR ?_)
    refine oC (oM rfl (Conv.of rfl) rfl) ?_
    refine oC (oM rfl (Conv.of rfl) rfl) ?_
    refine oC (op_ix sl24 rfl rfl rfl (by omega) hx) ?_
    refine oC (oFR f38_1 rfl rfl) ?_
    refine oC (oDR ty27 rfl rfl) ?_
    refine oC (oM rfl (Conv.of rfl) rfl) ?_
    refine oC (oL fb142 (.cons rfl (Conv.of rfl) (.cons rfl (Conv.of rfl) (.nil _))) (l3Same_ct _ _) (aK rfl rfl (aK rfl rfl aK0)) rfl rfl) ?_
    refine oN ?_
    refine aC rfl (fun h => ?_) (fun h => ?_)
    · refine aR ?_
      refine oC (oM rfl (Conv.of rfl) rfl) ?_
      refine oC (oP rfl rfl rfl (by omega)) ?_
      refine oC (oA rfl (Conv.of rfl) rfl) ?_
      refine oN ?_
      refine aR ?_
      refine oC (oM rfl (Conv.of rfl) rfl) ?_
      refine oC (oP rfl rfl rfl (by omega)) ?_
      refine oC (oA rfl (Conv.of rfl) rfl) ?_
      refine oN ?_
      repeat first | refine nS ?_ | refine nB ?_
      exact ⟨n - 1, _, by omega, ⟨k + 1, m + 1, by omega, by omega, by rw [hall, hs, h]; rfl, rfl⟩, Le.mk rfl (tle rfl (rfl) rfl (tle rfl (rfl) rfl (tle rfl (rfl) rfl (tle rfl (rfl) rfl tln)))) oln noS⟩
    · refine aW ?_
      refine aR ?_
      refine oC (oM rfl (Conv.of rfl) rfl) ?_
      refine oC (oP rfl rfl rfl (by omega)) ?_
      refine oC (oA rfl (Conv.of rfl) rfl) ?_
      refine oN ?_
      repeat first | refine nS ?_ | refine nB ?_
      exact ⟨n - 1, _, by omega, ⟨k + 1, m, by omega, by omega, by rw [hall, hs, h]; rfl, rfl⟩, Le.mk rfl (tle rfl (rfl) rfl (tle rfl (rfl) rfl (tle rfl (rfl) rfl (tle rfl (rfl) rfl tln)))) oln noS⟩
  · refine aE ?_
    repeat refine ex_seq ?_
    refine eB ?_
    have hk : l.length ≤ k := by simpa using h
    refine aS (aR ?_)
    refine oC (oM rfl (Conv.of rfl) rfl) ?_
    refine oC (oA rfl (Conv.of rfl) rfl) ?_
    refine oN ?_
    refine aT ?_
    repeat first | refine rS ?_ | refine rB ?_
    refine finP (.v rfl (Conv.of rfl)) rfl ?_
    show AV.v _ = _
    rw [hall, drop_end hk]; rfl
theorem l11Sure_ct (l : List Vote) (c : List Itm) : CtP Tryz.prog 143 [.v l, .v c] (.v (sureS l c)) := by
  refine Ct.intro Tryz.func143 rfl rfl ?_
  refine awp_bigL 1 rfl (fun hB => ?_)
  refine aS (aR ?_)
  refine oC (oA rfl (Conv.of rfl) rfl) ?_
  refine oN ?_
  refine aS (aS (aR ?_))
  refine oC (oA rfl (Conv.of rfl) rfl) ?_
  refine oN ?_
  refine aB ?_
  refine awp_loop' (fun n s => ∃ (k : Nat), ∃ (hn : n + k = c.length), ∃ (hall : sureS l c = sureSFrom l c k n), s = mkSt 18 [(0, .v l), (1, .v c), (5, .v ((k : Int) + 1))] []) (c.length) ⟨0, by omega, rfl, rfl⟩ (Le.mk rfl (tle rfl (rfl) rfl (tle rfl (rfl) rfl (tle rfl (rfl) rfl tln))) oln noS) ?_
  rintro n s ⟨k, hn, hall, rfl⟩
  refine aS (aS (aR ?_))
  refine oC (oM rfl (Conv.of rfl) rfl) ?_
  refine oC (oM rfl (Conv.of rfl) rfl) ?_
  refine oC (oE sl27 rfl rfl) ?_
  refine oC (op_leq rfl rfl rfl) ?_
  refine oN ?_
  refine aC rfl (fun h => ?_) (fun h => ?_)
  · have hlt : k < c.length := by simp at h; omega
    obtain ⟨n', rfl⟩ : ∃ n', n = n' + 1 := ⟨n - 1, by omega⟩
    refine aW ?_
    refine aS (aB ?_)
    refine aS (aR ?_)
    refine oC (oM rfl (Conv.of rfl) rfl) ?_
    refine oC (oM rfl (Conv.of rfl) rfl) ?_
    refine oC (oM rfl (Conv.of rfl) rfl) ?_
    refine oC (op_slh sl27 rfl rfl rfl (by omega)) ?_
    refine oC (oL fb167 (.cons rfl (Conv.of rfl) (.cons rfl (Conv.of rfl) (.nil _))) (l3Many_ct _ _) (aK rfl rfl (aK rfl rfl aK0)) rfl rfl) ?_
    refine oC (oLt rfl rfl rfl) ?_
    refine oN ?_
    refine aC rfl (fun hb => ?_) (fun hb => ?_)
    · refine aS (aR ?_)
      refine oC (oA rfl (Conv.of rfl) rfl) ?_
      refine oN ?_
      refine aT ?_
      repeat first | refine rS ?_ | refine rB ?_
      refine finP (.v rfl (Conv.of rfl)) rfl ?_
      show AV.v false = _
      have hb' : many l (c.take ((k : Int) + 1).toNat) < 3 := by simpa using hb
      rw [hall, sureS_step, decide_eq_false (by rw [show ((k : Int) + 1).toNat = k + 1 by omega] at hb'; omega), Bool.false_and]
    · refine aW ?_
      refine aR ?_
      refine oC (oM rfl (Conv.of rfl) rfl) ?_
      refine oC (oP rfl rfl rfl (by omega)) ?_
      refine oC (oA rfl (Conv.of rfl) rfl) ?_
      refine oN ?_
      have hb' : 3 ≤ many l (c.take ((k : Int) + 1).toNat) := by simpa using hb
      repeat first | refine nS ?_ | refine nB ?_
      exact ⟨n', _, by omega, ⟨k + 1, by omega, by rw [hall, sureS_step, decide_eq_true (by rw [show ((k : Int) + 1).toNat = k + 1 by omega] at hb'; omega), Bool.true_and], rfl⟩, Le.mk rfl (tle rfl (rfl) rfl (tle rfl (rfl) rfl (tle rfl (rfl) rfl tln))) oln noS⟩
  · refine aE ?_
    repeat refine ex_seq ?_
    refine eB ?_
    have hk : n = 0 := by simp at h; omega
    subst hk
    refine aS (aR ?_)
    refine oC (oA rfl (Conv.of rfl) rfl) ?_
    refine oN ?_
    refine aT ?_
    repeat first | refine rS ?_ | refine rB ?_
    refine finP (.v rfl (Conv.of rfl)) rfl ?_
    show AV.v true = _
    rw [hall]; rfl
end Go.Proofs.YtmhmeppocbcmeaaGreat

/- The reference: nodes. -/
set_option linter.unusedVariables false
set_option linter.unusedSimpArgs false
namespace Go.Proofs.YtmhmeppocbcmeaaGreat
open Go Go.Wt
theorem l12Enter_ct (n : Nod) (e : Int) (hn : 0 ≤ n.epoch ∧ n.epoch ≤ 30) : CtP Tryz.prog 131 [.v (sN n), .v e] (.v (sN (enterF n e))) := by
  unfold sN
  refine Ct.intro Tryz.func131 rfl rfl ?_
  refine aS (aR ?_)
  refine oC (op_boxm (o := 0) ty90_NodS rfl rfl rfl rfl) ?_
  refine oC (oX (o := 1) z90_NodS rfl rfl) ?_
  refine oN ?_
  refine aS (aS (aR ?_))
  refine oC (oM rfl (Conv.of rfl) rfl) ?_
  refine oC (oF f90_1_NodS rfl rfl) ?_
  refine oC (oD ty3 rfl rfl rfl) ?_
  refine oC (oP rfl rfl rfl (by ((try simp only [sN]); omega))) ?_
  refine oC (oL fb50 (.cons rfl (Conv.of rfl) (.cons rfl (Conv.of rfl) (.cons rfl (Conv.of rfl) (.nil _)))) (l6In_ct _ _ _) (aK rfl rfl (aK rfl rfl (aK rfl rfl aK0))) rfl rfl) ?_
  refine oN ?_
  refine aC rfl (fun h => ?_) (fun h => ?_)
  · refine aR ?_
    refine oC (oM rfl (Conv.of rfl) rfl) ?_
    refine oC (oF f90_1_NodS rfl rfl) ?_
    refine oC (op_st ty3 rfl rfl (Conv.of rfl) rfl) ?_
    refine oN ?_
    refine aS (aR ?_)
    refine oC (op_ldm ty90_NodS rfl rfl rfl) ?_
    refine oC (op_stm ty90_NodS rfl rfl rfl) ?_
    refine oN ?_
    refine aT ?_
    repeat first | refine rS ?_ | refine rB ?_
    refine ⟨_, _, res1C (ol := []) ty90_NodS rfl rfl (fun o ho => absurd (show o ∈ ([] : List Nat) from ho) (by simp)) oln noS, ?_, rfl⟩
    have h' : within e (n.epoch + 1) 30 = true := h
    show AV.v _ = AV.v _
    simp [enterF, h']
  · refine aW ?_
    refine aS (aR ?_)
    refine oC (op_ldm ty90_NodS rfl rfl rfl) ?_
    refine oC (op_stm ty90_NodS rfl rfl rfl) ?_
    refine oN ?_
    refine aT ?_
    repeat first | refine rS ?_ | refine rB ?_
    refine ⟨_, _, res1C (ol := []) ty90_NodS rfl rfl (fun o ho => absurd (show o ∈ ([] : List Nat) from ho) (by simp)) oln noS, ?_, rfl⟩
    have h' : within e (n.epoch + 1) 30 = false := h
    show AV.v _ = AV.v _
    simp [enterF, h']
theorem l3Add_ct (l : List Vote) (v : Vote) (hl : l.length ≤ 1000000) (hv : v.chain.length ≤ 1000000) : CtP Tryz.prog 146 [.v (OList.mk l true), .v v] (.tup [.v (OList.mk (if decide (v ∈ l) then l else l ++ [v]) true), .v (!decide (v ∈ l))]) := by
  refine Ct.intro Tryz.func146 rfl rfl ?_
  refine aS (aR ?_)
  refine oC (op_box (o := 0) ty38 rfl (Conv.of rfl) rfl rfl) ?_
  refine oC (oA rfl (Conv.of rfl) rfl) ?_
  refine oC (oA rfl (Conv.of rfl) rfl) ?_
  refine oN ?_
  refine aS (aS (aR ?_))
  refine oC (oM rfl Conv.ol rfl) ?_
  refine oC (oD ty38 rfl rfl rfl) ?_
  refine oC (oL fb106 (.cons rfl (Conv.of rfl) (.cons rfl (Conv.of rfl) (.nil _))) (l3Has_ct _ _) (aK rfl rfl (aK rfl rfl aK0)) rfl rfl) ?_
  refine oN ?_
  refine aC rfl (fun h => ?_) (fun h => ?_)
  · refine aS (aR ?_)
    refine oC (op_mvl rfl rfl rfl rfl) ?_
    refine oC (op_asl rfl rfl rfl rfl) ?_
    refine oC (oA rfl (Conv.of rfl) rfl) ?_
    refine oN ?_
    refine aT ?_
    repeat first | refine rS ?_ | refine rB ?_
    refine ⟨_, _, rNM (ol := []) (.tmp rfl (.keep (.v rfl (Conv.of rfl)) (.nil _))) rfl (fun o ho => absurd (show o ∈ ([] : List Nat) from ho) (by simp)) oln noS, ?_, rfl⟩
    simp only [h, if_true]
    try rfl
  · refine aW ?_
    refine aS (aR ?_)
    refine oC (op_mvl rfl rfl rfl rfl) ?_
    refine oC (oD ty38 rfl rfl rfl) ?_
    refine oC (oL fb160 (.cons rfl (Conv.of rfl) (.nil _)) (l3VoteCopy_ct _ hv) (aK rfl rfl aK0) rfl rfl) ?_
    refine oC (op_bsl sl24 z38 (.cons rfl (Conv.of rfl) (.nil _)) rfl (by decide) rfl) ?_
    refine oC (op_app sl24 z38 ul24 rfl rfl rfl (by (simp; omega)) (by (simp; omega)) rfl rfl) ?_
    refine oC (op_asl rfl rfl rfl rfl) ?_
    refine oC (oA rfl (Conv.of rfl) rfl) ?_
    refine oN ?_
    refine aT ?_
    repeat first | refine rS ?_ | refine rB ?_
    refine ⟨_, _, rNM (ol := []) (.tmp rfl (.keep (.v rfl (Conv.of rfl)) (.nil _))) rfl (fun o ho => absurd (show o ∈ ([] : List Nat) from ho) (by simp)) oln noS, ?_, rfl⟩
    simp only [h]
    try rfl
theorem l12Vote_ct (n : Nod) (c : List Itm) (hn : Gd n.seen) (hc : c.length ≤ 1000000) : CtP Tryz.prog 162 [.v (sN n), .v c] (.tup [.v (sN (voteF n c).1), .v (voteF n c).2.1, .v (voteF n c).2.2]) := by
  have hl := hn.len
  unfold sN
  refine Ct.intro Tryz.func162 rfl rfl ?_
  refine aS (aR ?_)
  refine oC (op_boxm (o := 0) ty90_NodS rfl rfl rfl rfl) ?_
  refine oC (oX (o := 1) z90_NodS rfl rfl) ?_
  refine oC (oX (o := 2) z38 rfl rfl) ?_
  refine oC (oA rfl (Conv.of rfl) rfl) ?_
  refine oN ?_
  refine aS (dS ?_)
  refine dC (oF f90_0_NodS rfl rfl) ?_
  refine dC (oD ty3 rfl rfl rfl) ?_
  refine dC (oM rfl (Conv.of rfl) rfl) ?_
  refine dC (oL fb107 (.cons rfl (Conv.of rfl) (.nil _)) (l1Copy_ct _ hc) (aK rfl rfl aK0) rfl rfl) ?_
  refine dC (op_build (.cons f38_0 rfl (Conv.of rfl) (.cons f38_1 rfl (Conv.ol) (.nil _))) z38 rfl pl38 rfl) ?_
  refine dC (oX (o := 3) z38 rfl rfl) ?_
  refine dC (op_st ty38 rfl rfl (Conv.of rfl) rfl) ?_
  refine dr_nil mixed rfl ?_
  refine aS (aS (aR ?_))
  refine oC (oF f90_3_NodS rfl rfl) ?_
  refine oC (op_ldl ty24_OListVote rfl rfl rfl) ?_
  refine oC (oE sl24 rfl rfl) ?_
  refine oC (op_geq rfl rfl rfl) ?_
  refine oN ?_
  refine aC rfl (fun h => ?_) (fun h => ?_)
  · have h' : decide (80 ≤ n.seen.length) = true := by simp at h ⊢; omega
    refine aS (aR ?_)
    refine oC (op_ldm ty90_NodS rfl rfl rfl) ?_
    refine oC (op_build (.nil _) z38 rfl pl38 rfl) ?_
    refine oC (op_stm ty90_NodS rfl rfl rfl) ?_
    refine oC (op_st ty38 rfl rfl (Conv.of rfl) rfl) ?_
    refine oC (oA rfl (Conv.of rfl) rfl) ?_
    refine oN ?_
    refine aT ?_
    repeat first | refine rS ?_ | refine rB ?_
    refine ⟨_, _, rNM (ol := []) (.cell ty90_NodS rfl rfl (.keep (.rc ty38 rfl rfl) (.keep (.v rfl (Conv.of rfl)) (.nil _)))) rfl (fun o ho => absurd (show o ∈ ([] : List Nat) from ho) (by simp)) oln noS, ?_, rfl⟩
    simp only [voteF, h', if_true]
    try rfl
  · have h' : decide (80 ≤ n.seen.length) = false := by simp at h ⊢; omega
    refine aW ?_
    refine aS (aR ?_)
    refine oC (oF f90_1_NodS rfl rfl) ?_
    refine oC (oD ty3 rfl rfl rfl) ?_
    refine oC (oF f90_2_NodS rfl rfl) ?_
    refine oC (op_st ty3 rfl rfl (Conv.of rfl) rfl) ?_
    refine oN ?_
    refine aS (dS ?_)
    refine dC (oF f90_3_NodS rfl rfl) ?_
    refine dC (op_ldm ty24_OListVote rfl rfl rfl) ?_
    refine dC (oD ty38 rfl rfl rfl) ?_
    refine dC (oL fb160 (.cons rfl (Conv.of rfl) (.nil _)) (l3VoteCopy_ct ⟨n.id, c⟩ hc) (aK rfl rfl aK0) rfl rfl) ?_
    refine dC (op_bsl sl24 z38 (.cons rfl (Conv.of rfl) (.nil _)) rfl (by decide) rfl) ?_
    refine dC (op_app sl24 z38 ul24 rfl rfl rfl (by (simp; omega)) (by (simp; omega)) rfl rfl) ?_
    refine dC (oF f90_3_NodS rfl rfl) ?_
    refine dC (op_stm ty24_OListVote rfl rfl rfl) ?_
    refine dr_nil mixed rfl ?_
    refine aS (dS ?_)
    refine dC (op_ldm ty90_NodS rfl rfl rfl) ?_
    refine dC (oD ty38 rfl rfl rfl) ?_
    refine dC (op_stm ty90_NodS rfl rfl rfl) ?_
    refine dC (op_st ty38 rfl rfl (Conv.of rfl) rfl) ?_
    refine dC (oA rfl (Conv.of rfl) rfl) ?_
    refine dr_nil mixed rfl ?_
    refine aT ?_
    repeat first | refine rS ?_ | refine rB ?_
    refine ⟨_, _, rNM (ol := []) (.cell ty90_NodS rfl rfl (.keep (.rc ty38 rfl rfl) (.keep (.v rfl (Conv.of rfl)) (.nil _)))) rfl (fun o ho => absurd (show o ∈ ([] : List Nat) from ho) (by simp)) oln noS, ?_, rfl⟩
    simp only [voteF, h']
    try rfl
theorem l12Fits_ct (n : Nod) (u : Vote) (long : Nat) (hu : 0 < u.chain.length) (hn : 0 ≤ n.epoch ∧ n.epoch ≤ 30) : CtP Tryz.prog 176 [.v (fN n), .v u, .v (long : Int)] (.v (fitsS n u long)) := by
  have hx : u.chain[u.chain.length - 1]? = some (u.chain[u.chain.length - 1]'(by omega)) := List.getElem?_eq_getElem (by omega)
  have hx' : u.chain[((u.chain.length : Int) - 1).toNat]? = some (u.chain[u.chain.length - 1]'(by omega)) := by
    rw [show ((u.chain.length : Int) - 1).toNat = u.chain.length - 1 by omega]; exact hx
  unfold fN
  refine Ct.intro Tryz.func176 rfl rfl ?_
  all_goals refine aS (aR ?_)
  all_goals refine oC (op_box (o := 0) ty90_NodS rfl (Conv.of rfl) rfl rfl) ?_
  all_goals refine oC (op_box (o := 1) ty38 rfl (Conv.of rfl) rfl rfl) ?_
  all_goals refine oC (oA rfl (Conv.of rfl) rfl) ?_
  all_goals refine oN ?_
  all_goals refine aS (aR ?_)
  all_goals refine oC (oF f38_1 rfl rfl) ?_
  all_goals refine oC (oD ty27 rfl rfl rfl) ?_
  refine awpOps_bigL 9 rfl (fun hb => ?_)
  all_goals refine oC (oE sl27 rfl rfl) ?_
  all_goals refine oC (op_sub rfl rfl rfl (by omega)) ?_
  all_goals refine oC (oA rfl (Conv.of rfl) rfl) ?_
  all_goals refine oN ?_
  all_goals refine aS (dS ?_)
  all_goals refine dC (oF f38_0 rfl rfl) ?_
  all_goals refine dC (oD ty3 rfl rfl rfl) ?_
  all_goals refine dC (oF f90_1_NodS rfl rfl) ?_
  all_goals refine dC (oD ty3 rfl rfl rfl) ?_
  all_goals refine dC (oL fb80 (.cons rfl (Conv.of rfl) (.nil _)) (l3Leader_ct _ (by show -1000 ≤ n.epoch ∧ n.epoch ≤ 1000000; omega)) (aK rfl rfl aK0) rfl rfl) ?_
  all_goals refine dC (op_eql rfl rfl rfl) ?_
  all_goals refine dC (oM rfl (Conv.of rfl) rfl) ?_
  all_goals refine dr_split (t := 18) rfl (fun h => ?_) (fun h => ?_)
  all_goals first | refine dC (gF rfl rfl rfl rfl rfl) ?_ | refine dC (gN rfl rfl rfl (oF f38_1 rfl rfl)) ?_
  all_goals first | refine dC (gF rfl rfl rfl rfl rfl) ?_ | refine dC (gN rfl rfl rfl (oD ty27 rfl rfl rfl)) ?_
  all_goals first | refine dC (gF rfl rfl rfl rfl rfl) ?_ | refine dC (gN rfl rfl rfl (oM rfl (Conv.of rfl) rfl)) ?_
  all_goals first | refine dC (gF rfl rfl rfl rfl rfl) ?_ | refine dC (gN rfl rfl rfl (op_ix sl27 rfl rfl rfl (by omega) hx')) ?_
  all_goals first | refine dC (gF rfl rfl rfl rfl rfl) ?_ | refine dC (gN rfl rfl rfl (oFR f143_0 rfl rfl)) ?_
  all_goals first | refine dC (gF rfl rfl rfl rfl rfl) ?_ | refine dC (gN rfl rfl rfl (oDR ty3 rfl rfl)) ?_
  all_goals first | refine dC (gF rfl rfl rfl rfl rfl) ?_ | refine dC (gN rfl rfl rfl (oF f90_1_NodS rfl rfl)) ?_
  all_goals first | refine dC (gF rfl rfl rfl rfl rfl) ?_ | refine dC (gN rfl rfl rfl (oD ty3 rfl rfl rfl)) ?_
  all_goals first | refine dC (gF rfl rfl rfl rfl rfl) ?_ | refine dC (gN rfl rfl rfl (op_eql rfl rfl rfl)) ?_
  all_goals refine dC (oQ rfl rfl rfl rfl) ?_
  all_goals refine dC (oM rfl (Conv.of rfl) rfl) ?_
  all_goals first | refine dr_lit (t := 29) (b := false) rfl ?_ | refine dr_split (t := 29) rfl (fun h => ?_) (fun h => ?_)
  all_goals first | refine dC (gF rfl rfl rfl rfl rfl) ?_ | refine dC (gN rfl rfl rfl (oM rfl (Conv.of rfl) rfl)) ?_
  all_goals first | refine dC (gF rfl rfl rfl rfl rfl) ?_ | refine dC (gN rfl rfl rfl (oM rfl (Conv.of rfl) rfl)) ?_
  all_goals first | refine dC (gF rfl rfl rfl rfl rfl) ?_ | refine dC (gN rfl rfl rfl (op_eql rfl rfl rfl)) ?_
  all_goals refine dC (oQ rfl rfl rfl rfl) ?_
  all_goals refine dC (oM rfl (Conv.of rfl) rfl) ?_
  all_goals first | refine dr_lit (t := 34) (b := false) rfl ?_ | refine dr_split (t := 34) rfl (fun h => ?_) (fun h => ?_)
  all_goals first | refine dC (gF rfl rfl rfl rfl rfl) ?_ | refine dC (gN rfl rfl rfl (oF f90_3_NodS rfl rfl)) ?_
  all_goals first | refine dC (gF rfl rfl rfl rfl rfl) ?_ | refine dC (gN rfl rfl rfl (op_ldl ty24_OListVote rfl rfl rfl)) ?_
  all_goals first | refine dC (gF rfl rfl rfl rfl rfl) ?_ | refine dC (gN rfl rfl rfl (oF f38_1 rfl rfl)) ?_
  all_goals first | refine dC (gF rfl rfl rfl rfl rfl) ?_ | refine dC (gN rfl rfl rfl (oD ty27 rfl rfl rfl)) ?_
  all_goals first | refine dC (gF rfl rfl rfl rfl rfl) ?_ | refine dC (gN rfl rfl rfl (oM rfl (Conv.of rfl) rfl)) ?_
  all_goals first | refine dC (gF rfl rfl rfl rfl rfl) ?_ | refine dC (gN rfl rfl rfl (op_slh sl27 rfl rfl rfl ⟨by omega, by omega⟩)) ?_
  all_goals first | refine dC (gF rfl rfl rfl rfl rfl) ?_ | refine dC (gN rfl rfl rfl (oL fb143 (.cons rfl (Conv.of rfl) (.cons rfl (Conv.of rfl) (.nil _))) (l11Sure_ct _ _) (aK rfl rfl (aK rfl rfl aK0)) rfl rfl)) ?_
  all_goals refine dC (oQ rfl rfl rfl rfl) ?_
  all_goals refine dC (oA rfl (Conv.of rfl) rfl) ?_
  all_goals refine dr_nil mixed rfl ?_
  all_goals refine aT ?_
  all_goals refine finP (.v rfl (Conv.of rfl)) rfl ?_
  all_goals (simp only [FV.av]; congr 1; rw [fitsS_alt hu, lastEp_get hx]; simp_all)
end Go.Proofs.YtmhmeppocbcmeaaGreat

/- The reference: sure chains. -/
set_option linter.unusedVariables false
set_option linter.unusedSimpArgs false
namespace Go.Proofs.YtmhmeppocbcmeaaGreat
open Go Go.Wt
set_option maxHeartbeats 1000000 in
theorem l11All_ct (l : List Vote) (hl : l.length ≤ 100000) (hv : ∀ v ∈ l, v.chain.length ≤ 1000000) : CtP Tryz.prog 92 [.v l] (.v (OList.mk (allOfS l) true)) := by
  refine Ct.intro Tryz.func92 rfl rfl ?_
  all_goals refine aS (aR ?_)
  all_goals refine oC (oA rfl (Conv.of rfl) rfl) ?_
  all_goals refine oN ?_
  all_goals refine aS (aR ?_)
  all_goals refine oC (op_bsl sl27 z143 (.nil _) rfl (by decide) rfl) ?_
  all_goals refine oC (op_bsl sl133 z27 (.cons rfl (Conv.ol) (.nil _)) rfl (by decide) rfl) ?_
  all_goals refine oC (op_asl rfl rfl rfl rfl) ?_
  all_goals refine oN ?_
  all_goals refine aS (aS (aR ?_))
  all_goals refine oC (oA rfl (Conv.of rfl) rfl) ?_
  all_goals refine oN ?_
  refine aB ?_
  refine awp_loop' (fun n s => ∃ (k : Nat), ∃ (hn : n + k = l.length), s = mkSt 55 [(0, .v l), (3, .v (OList.mk ((l.take k).foldl (allStepS l) [[]]) true)), (4, .v (k : Int))] []) (l.length) ⟨0, by omega, rfl⟩ (Le.mk rfl (tle rfl (rfl) rfl (tle rfl (by rfl) rfl (tle rfl (rfl) rfl tln))) oln noS) ?_
  rintro n s ⟨k, hn, rfl⟩
  generalize hO : (l.take k).foldl (allStepS l) [[]] = out
  have hout : out.length ≤ 100001 := by
    have := allStepS_len l (l.take k) [[]]
    rw [hO] at this
    simp at this; omega
  all_goals refine aS (aS (aR ?_))
  all_goals refine oC (oM rfl (Conv.of rfl) rfl) ?_
  all_goals refine oC (oM rfl (Conv.of rfl) rfl) ?_
  all_goals refine oC (oE sl24 rfl rfl) ?_
  all_goals refine oC (oLt rfl rfl rfl) ?_
  all_goals refine oN ?_
  refine aC rfl (fun h => ?_) (fun h => ?_)
  · have hlt : k < l.length := by simpa using h
    have hx : l[k]? = some l[k] := List.getElem?_eq_getElem hlt
    refine aW ?_
    refine aS (aB ?_)
    all_goals refine aS (aR ?_)
    all_goals refine oC (oA rfl (Conv.of rfl) rfl) ?_
    all_goals refine oN ?_
    all_goals refine aS (aS (aR ?_))
    all_goals refine oC (oA rfl (Conv.of rfl) rfl) ?_
    all_goals refine oN ?_
    refine awp_to (s' := mkSt 55 [(0, .v l), (3, .v (OList.mk out true)), (4, .v (k : Int)), (5, .v (decide (l[k].chain ∈ out)))] []) ?_ ?_
    · refine aB ?_
      refine awp_loop' (fun n_ s => ∃ (m : Nat), ∃ (hn2 : n_ + m = out.length), s = mkSt 55 [(0, .v l), (3, .v (OList.mk out true)), (4, .v (k : Int)), (5, .v (decide (l[k].chain ∈ out.take m))), (6, .v (m : Int))] []) (out.length) ⟨0, by omega, rfl⟩ (Le.mk rfl (tle rfl (rfl) rfl (tle rfl (rfl) rfl (tle rfl (rfl) rfl (tle rfl (by rfl) rfl (tle rfl (rfl) rfl tln))))) oln noS) ?_
      rintro n_ s ⟨m, hn2, rfl⟩
      all_goals refine aS (aS (aR ?_))
      all_goals refine oC (oM rfl (Conv.of rfl) rfl) ?_
      all_goals refine oC (oM rfl Conv.ol rfl) ?_
      all_goals refine oC (oE sl133 rfl rfl) ?_
      all_goals refine oC (oLt rfl rfl rfl) ?_
      all_goals refine oN ?_
      refine aC rfl (fun h2 => ?_) (fun h2 => ?_)
      · have hlt2 : m < out.length := by simpa using h2
        have hy : out[m]? = some out[m] := List.getElem?_eq_getElem hlt2
        have hs2 := mem_take_c (v := l[k].chain) hy
        refine aW ?_
        refine aS (aB ?_)
        refine awp_toB (s' := mkSt 55 [(0, .v l), (3, .v (OList.mk out true)), (4, .v (k : Int)), (5, .v (decide (l[k].chain ∈ out.take (m + 1)))), (6, .v (m : Int))] []) ?_ ?_
        · all_goals refine dS ?_
          all_goals refine dC (oM rfl (Conv.of rfl) rfl) ?_
          all_goals refine dC (oM rfl (Conv.of rfl) rfl) ?_
          all_goals refine dr_split (t := 22) rfl (fun h => ?_) (fun h => ?_)
          all_goals first | refine dC (gF rfl rfl rfl rfl rfl) ?_ | refine dC (gN rfl rfl rfl (oM rfl Conv.ol rfl)) ?_
          all_goals first | refine dC (gF rfl rfl rfl rfl rfl) ?_ | refine dC (gN rfl rfl rfl (oM rfl (Conv.of rfl) rfl)) ?_
          all_goals first | refine dC (gF rfl rfl rfl rfl rfl) ?_ | refine dC (gN rfl rfl rfl (op_ix sl133 rfl rfl rfl (by omega) hy)) ?_
          all_goals first | refine dC (gF rfl rfl rfl rfl rfl) ?_ | refine dC (gN rfl rfl rfl (oDR ty27 rfl rfl)) ?_
          all_goals first | refine dC (gF rfl rfl rfl rfl rfl) ?_ | refine dC (gN rfl rfl rfl (oM rfl (Conv.of rfl) rfl)) ?_
          all_goals first | refine dC (gF rfl rfl rfl rfl rfl) ?_ | refine dC (gN rfl rfl rfl (oM rfl (Conv.of rfl) rfl)) ?_
          all_goals first | refine dC (gF rfl rfl rfl rfl rfl) ?_ | refine dC (gN rfl rfl rfl (op_ix sl24 rfl rfl rfl (by omega) hx)) ?_
          all_goals first | refine dC (gF rfl rfl rfl rfl rfl) ?_ | refine dC (gN rfl rfl rfl (oFR f38_1 rfl rfl)) ?_
          all_goals first | refine dC (gF rfl rfl rfl rfl rfl) ?_ | refine dC (gN rfl rfl rfl (oDR ty27 rfl rfl)) ?_
          all_goals first | refine dC (gF rfl rfl rfl rfl rfl) ?_ | refine dC (gN rfl rfl rfl (oL fb142 (.cons rfl (Conv.of rfl) (.cons rfl (Conv.of rfl) (.nil _))) (l3Same_ct _ _) (aK rfl rfl (aK rfl rfl aK0)) rfl rfl)) ?_
          all_goals refine dC (oQ rfl rfl rfl rfl) ?_
          all_goals refine dC (oA rfl (Conv.of rfl) rfl) ?_
          all_goals refine dr_nil mixed rfl ?_
          all_goals exact Le.mk rfl (tle rfl (rfl) rfl (tle rfl (rfl) rfl (tle rfl (rfl) rfl (tle rfl (by (rw [hs2]; clear hs2; simp_all)) rfl (tle rfl (rfl) rfl tln))))) oln noS
        all_goals refine aR ?_
        all_goals refine oC (oM rfl (Conv.of rfl) rfl) ?_
        all_goals refine oC (oP rfl rfl rfl (by omega)) ?_
        all_goals refine oC (oA rfl (Conv.of rfl) rfl) ?_
        all_goals refine oN ?_
        repeat first | refine nS ?_ | refine nB ?_
        exact ⟨n_ - 1, _, by omega, ⟨m + 1, by omega, rfl⟩, Le.mk rfl (tle rfl (rfl) rfl (tle rfl (rfl) rfl (tle rfl (rfl) rfl (tle rfl (by rfl) rfl (tle rfl (rfl) rfl tln))))) oln noS⟩
      · refine aE ?_
        repeat refine ex_seq ?_
        refine eB ?_
        have hm : out.length ≤ m := by simpa using h2
        all_goals exact Le.mk rfl (tle rfl (rfl) rfl (tle rfl (rfl) rfl (tle rfl (rfl) rfl (tle rfl (by (simp only [take_end hm])) rfl tln)))) oln noS
    · refine aST (s' := mkSt 55 [(0, .v l), (3, .v (OList.mk out true)), (4, .v (k : Int)), (44, .v (!decide (l[k].chain ∈ out) && sureS l l[k].chain))] []) ?_ ?_
      · all_goals refine aR ?_
        all_goals refine oC (oM rfl (Conv.of rfl) rfl) ?_
        all_goals refine oC (op_not rfl rfl) ?_
        all_goals refine oC (oM rfl (Conv.of rfl) rfl) ?_
        all_goals refine g_split (t := 36) rfl (fun h => ?_) (fun h => ?_)
        all_goals first | refine oC (gF rfl rfl rfl rfl rfl) ?_ | refine oC (gN rfl rfl rfl (oM rfl (Conv.of rfl) rfl)) ?_
        all_goals first | refine oC (gF rfl rfl rfl rfl rfl) ?_ | refine oC (gN rfl rfl rfl (oM rfl (Conv.of rfl) rfl)) ?_
        all_goals first | refine oC (gF rfl rfl rfl rfl rfl) ?_ | refine oC (gN rfl rfl rfl (oM rfl (Conv.of rfl) rfl)) ?_
        all_goals first | refine oC (gF rfl rfl rfl rfl rfl) ?_ | refine oC (gN rfl rfl rfl (op_ix sl24 rfl rfl rfl (by omega) hx)) ?_
        all_goals first | refine oC (gF rfl rfl rfl rfl rfl) ?_ | refine oC (gN rfl rfl rfl (oFR f38_1 rfl rfl)) ?_
        all_goals first | refine oC (gF rfl rfl rfl rfl rfl) ?_ | refine oC (gN rfl rfl rfl (oDR ty27 rfl rfl)) ?_
        all_goals first | refine oC (gF rfl rfl rfl rfl rfl) ?_ | refine oC (gN rfl rfl rfl (oL fb143 (.cons rfl (Conv.of rfl) (.cons rfl (Conv.of rfl) (.nil _))) (l11Sure_ct _ _) (aK rfl rfl (aK rfl rfl aK0)) rfl rfl)) ?_
        all_goals refine oC (oQ rfl rfl rfl rfl) ?_
        all_goals refine oN ?_
        all_goals exact Le.mk rfl (tle rfl (rfl) rfl (tle rfl (rfl) rfl (tle rfl (rfl) rfl (tle rfl (by simp_all) rfl tln)))) oln noS
      refine aC rfl (fun hb => ?_) (fun hb => ?_)
      · all_goals refine aR ?_
        all_goals refine oC (op_mvl rfl rfl rfl rfl) ?_
        all_goals refine oC (oM rfl (Conv.of rfl) rfl) ?_
        all_goals refine oC (oM rfl (Conv.of rfl) rfl) ?_
        all_goals refine oC (op_ix sl24 rfl rfl rfl (by omega) hx) ?_
        all_goals refine oC (oFR f38_1 rfl rfl) ?_
        all_goals refine oC (oDR ty27 rfl rfl) ?_
        all_goals refine oC (oL fb107 (.cons rfl (Conv.of rfl) (.nil _)) (l1Copy_ct _ (hv _ (List.getElem_mem hlt))) (aK rfl rfl aK0) rfl rfl) ?_
        all_goals refine oC (op_bsl sl133 z27 (.cons rfl (Conv.ol) (.nil _)) rfl (by decide) rfl) ?_
        all_goals refine oC (op_app sl133 z27 ul133 rfl rfl rfl (by (simp; omega)) (by (simp; omega)) rfl rfl) ?_
        all_goals refine oC (op_asl rfl rfl rfl rfl) ?_
        all_goals refine oN ?_
        all_goals refine aR ?_
        all_goals refine oC (oM rfl (Conv.of rfl) rfl) ?_
        all_goals refine oC (oP rfl rfl rfl (by omega)) ?_
        all_goals refine oC (oA rfl (Conv.of rfl) rfl) ?_
        all_goals refine oN ?_
        repeat first | refine nS ?_ | refine nB ?_
        exact ⟨n - 1, _, by omega, ⟨k + 1, by omega, rfl⟩, Le.mk rfl (tle rfl (rfl) rfl (tle rfl (by (rw [foldl_at _ _ hx, hO]; simp only [allStepS, hb]; try rfl)) rfl (tle rfl (rfl) rfl tln))) oln noS⟩
      · refine aW ?_
        all_goals refine aR ?_
        all_goals refine oC (oM rfl (Conv.of rfl) rfl) ?_
        all_goals refine oC (oP rfl rfl rfl (by omega)) ?_
        all_goals refine oC (oA rfl (Conv.of rfl) rfl) ?_
        all_goals refine oN ?_
        repeat first | refine nS ?_ | refine nB ?_
        exact ⟨n - 1, _, by omega, ⟨k + 1, by omega, rfl⟩, Le.mk rfl (tle rfl (rfl) rfl (tle rfl (by (rw [foldl_at _ _ hx, hO]; simp only [allStepS, hb]; try rfl)) rfl (tle rfl (rfl) rfl tln))) oln noS⟩
  · refine aE ?_
    repeat refine ex_seq ?_
    refine eB ?_
    have hk : l.length ≤ k := by simpa using h
    all_goals refine aS (aR ?_)
    all_goals refine oC (op_mvl rfl rfl rfl rfl) ?_
    all_goals refine oC (op_asl rfl rfl rfl rfl) ?_
    all_goals refine oN ?_
    refine aT ?_
    repeat first | refine rS ?_ | refine rB ?_
    exact finM rfl rfl (by rw [← hO, take_end hk]; rfl)
theorem l11Tip_ct (l : List Vote) (hl : l.length ≤ 100000) (hv : ∀ v ∈ l, v.chain.length ≤ 1000000) : CtP Tryz.prog 161 [.v l] (.v (tipOfS l)) := by
  have h0 := allOfS_0 l
  have hall : (allOfS l).length ≤ 100001 := by
    have := allStepS_len l l [[]]
    simp at this; unfold allOfS; omega
  have hpos : 0 < (allOfS l).length := (List.getElem?_eq_some_iff.1 h0).1
  refine Ct.intro Tryz.func161 rfl rfl ?_
  refine aS (aR ?_)
  refine oC (oA rfl (Conv.of rfl) rfl) ?_
  refine oN ?_
  refine aS (aR ?_)
  refine oC (oM rfl (Conv.of rfl) rfl) ?_
  refine oC (oL fb92 (.cons rfl (Conv.of rfl) (.nil _)) (l11All_ct l hl hv) (aK rfl rfl aK0) rfl rfl) ?_
  refine oC (oA rfl Conv.ol rfl) ?_
  refine oN ?_
  refine aS (aR ?_)
  refine oC (oM rfl (Conv.of rfl) rfl) ?_
  refine oC (op_ix sl133 rfl rfl rfl (by omega) h0) ?_
  refine oC (oDR ty27 rfl rfl) ?_
  refine oC (oA rfl (Conv.of rfl) rfl) ?_
  refine oN ?_
  refine aS (aS (aR ?_))
  refine oC (oA rfl (Conv.of rfl) rfl) ?_
  refine oN ?_
  refine aB ?_
  refine awp_loop' (fun n s => ∃ (k : Nat), ∃ (hn : n + k = (allOfS l).length), ∃ (hk1 : 1 ≤ k), s = mkSt 30 [(3, .v (allOfS l)), (4, .v (((allOfS l).take k).foldl tipStep [])), (5, .v (k : Int))] []) ((allOfS l).length - 1) ⟨1, by omega, Nat.le_refl _, rfl⟩ (Le.mk rfl (tle rfl (rfl) rfl (tle rfl (by (first | (show AV.v _ = AV.v _; rw [show (allOfS l).take 1 = [[]] from by rw [take_at h0]; rfl]; rfl) | rw [foldl_at _ _ hx]; simp only [tipStep, hb'']; try rfl)) rfl (tle rfl (rfl) rfl tln))) oln noS) ?_
  rintro n s ⟨k, hn, hk1, rfl⟩
  refine aS (aS (aR ?_))
  refine oC (oM rfl (Conv.of rfl) rfl) ?_
  refine oC (oM rfl (Conv.of rfl) rfl) ?_
  refine oC (oE sl133 rfl rfl) ?_
  refine oC (oLt rfl rfl rfl) ?_
  refine oN ?_
  refine aC rfl (fun h => ?_) (fun h => ?_)
  · have hlt : k < (allOfS l).length := by simpa using h
    have hx : (allOfS l)[k]? = some (allOfS l)[k] := List.getElem?_eq_getElem hlt
    refine aW ?_
    refine aS (aB ?_)
    refine aS (aR ?_)
    refine oC (oM rfl (Conv.of rfl) rfl) ?_
    refine oC (oM rfl (Conv.of rfl) rfl) ?_
    refine oC (op_ix sl133 rfl rfl rfl (by omega) hx) ?_
    refine oC (oDR ty27 rfl rfl) ?_
    refine oC (oE sl27 rfl rfl) ?_
    refine oC (oM rfl (Conv.of rfl) rfl) ?_
    refine oC (oE sl27 rfl rfl) ?_
    refine oC (op_gtr rfl rfl rfl) ?_
    refine oN ?_
    refine aC rfl (fun hb => ?_) (fun hb => ?_)
    · have hb'' : decide ((((allOfS l).take k).foldl tipStep []).length < ((allOfS l)[k]).length) = true := by simp at hb ⊢; omega
      refine aR ?_
      refine oC (oM rfl (Conv.of rfl) rfl) ?_
      refine oC (oM rfl (Conv.of rfl) rfl) ?_
      refine oC (op_ix sl133 rfl rfl rfl (by omega) hx) ?_
      refine oC (oDR ty27 rfl rfl) ?_
      refine oC (oA rfl (Conv.of rfl) rfl) ?_
      refine oN ?_
      refine aR ?_
      refine oC (oM rfl (Conv.of rfl) rfl) ?_
      refine oC (oP rfl rfl rfl (by omega)) ?_
      refine oC (oA rfl (Conv.of rfl) rfl) ?_
      refine oN ?_
      repeat first | refine nS ?_ | refine nB ?_
      exact ⟨n - 1, _, by omega, ⟨k + 1, by omega, by omega, rfl⟩, Le.mk rfl (tle rfl (rfl) rfl (tle rfl (by (first | (show AV.v _ = AV.v _; rw [show (allOfS l).take 1 = [[]] from by rw [take_at h0]; rfl]; rfl) | rw [foldl_at _ _ hx]; simp only [tipStep, hb'']; try rfl)) rfl (tle rfl (rfl) rfl tln))) oln noS⟩
    · have hb'' : decide ((((allOfS l).take k).foldl tipStep []).length < ((allOfS l)[k]).length) = false := by simp at hb ⊢; omega
      refine aW ?_
      refine aR ?_
      refine oC (oM rfl (Conv.of rfl) rfl) ?_
      refine oC (oP rfl rfl rfl (by omega)) ?_
      refine oC (oA rfl (Conv.of rfl) rfl) ?_
      refine oN ?_
      repeat first | refine nS ?_ | refine nB ?_
      exact ⟨n - 1, _, by omega, ⟨k + 1, by omega, by omega, rfl⟩, Le.mk rfl (tle rfl (rfl) rfl (tle rfl (by (first | (show AV.v _ = AV.v _; rw [show (allOfS l).take 1 = [[]] from by rw [take_at h0]; rfl]; rfl) | rw [foldl_at _ _ hx]; simp only [tipStep, hb'']; try rfl)) rfl (tle rfl (rfl) rfl tln))) oln noS⟩
  · refine aE ?_
    repeat refine ex_seq ?_
    refine eB ?_
    have hk : (allOfS l).length ≤ k := by simpa using h
    refine aS (aR ?_)
    refine oC (oM rfl (Conv.of rfl) rfl) ?_
    refine oC (oA rfl (Conv.of rfl) rfl) ?_
    refine oN ?_
    refine aT ?_
    repeat first | refine rS ?_ | refine rB ?_
    refine finP (.v rfl (Conv.of rfl)) rfl ?_
    simp only [take_end hk]; rfl
end Go.Proofs.YtmhmeppocbcmeaaGreat

/- The reference: a node proposes. -/
set_option linter.unusedVariables false
set_option linter.unusedSimpArgs false
namespace Go.Proofs.YtmhmeppocbcmeaaGreat
open Go Go.Wt
set_option maxHeartbeats 1000000 in
theorem l12Propose_ct (n : Nod) (p : Pay) (hn : Gd n.seen) (he : 0 ≤ n.epoch ∧ n.epoch ≤ 30) : CtP Tryz.prog 134 [.v (sN n), .v p] (res3S (proposeS n p)) := by
  have htip := hn.tipS
  unfold sN
  refine Ct.intro Tryz.func134 rfl rfl ?_
  all_goals refine aS (aR ?_)
  all_goals refine oC (op_boxm (o := 0) ty90_NodS rfl rfl rfl rfl) ?_
  all_goals refine oC (op_box (o := 1) ty75 rfl (Conv.of rfl) rfl rfl) ?_
  all_goals refine oC (oX (o := 2) z90_NodS rfl rfl) ?_
  all_goals refine oC (oX (o := 3) z38 rfl rfl) ?_
  all_goals refine oC (oA rfl (Conv.of rfl) rfl) ?_
  all_goals refine oN ?_
  refine aS (aST (s' := mkSt 49 [(2, .box 0 (IsLens.whole NodS)), (3, .box 1 (IsLens.whole Pay)), (4, .box 2 (IsLens.whole NodS)), (5, .box 3 (IsLens.whole Vote)), (6, .v false), (25, .v (decide (n.epoch = 0) || decide (n.voted = n.epoch) || !decide (leadS n.epoch = n.id)))] [(0, .cell (sN n)), (1, .cell p), (2, .cell NodS.zero), (3, .cell Vote.zero)]) ?_ ?_)
  · all_goals refine dS ?_
    all_goals refine dC (oF f90_1_NodS rfl rfl) ?_
    all_goals refine dC (oD ty3 rfl rfl rfl) ?_
    all_goals refine dC (op_eql rfl rfl rfl) ?_
    all_goals refine dC (oM rfl (Conv.of rfl) rfl) ?_
    all_goals refine dr_split (t := 11) rfl (fun h => ?_) (fun h => ?_)
    all_goals first | refine dC (gF rfl rfl rfl rfl rfl) ?_ | refine dC (gN rfl rfl rfl (oF f90_2_NodS rfl rfl)) ?_
    all_goals first | refine dC (gF rfl rfl rfl rfl rfl) ?_ | refine dC (gN rfl rfl rfl (oD ty3 rfl rfl rfl)) ?_
    all_goals first | refine dC (gF rfl rfl rfl rfl rfl) ?_ | refine dC (gN rfl rfl rfl (oF f90_1_NodS rfl rfl)) ?_
    all_goals first | refine dC (gF rfl rfl rfl rfl rfl) ?_ | refine dC (gN rfl rfl rfl (oD ty3 rfl rfl rfl)) ?_
    all_goals first | refine dC (gF rfl rfl rfl rfl rfl) ?_ | refine dC (gN rfl rfl rfl (op_eql rfl rfl rfl)) ?_
    all_goals refine dC (oQ rfl rfl rfl rfl) ?_
    all_goals refine dC (oM rfl (Conv.of rfl) rfl) ?_
    all_goals first | refine dr_lit (t := 18) (b := true) rfl ?_ | refine dr_split (t := 18) rfl (fun h => ?_) (fun h => ?_)
    all_goals first | refine dC (gF rfl rfl rfl rfl rfl) ?_ | refine dC (gN rfl rfl rfl (oF f90_1_NodS rfl rfl)) ?_
    all_goals first | refine dC (gF rfl rfl rfl rfl rfl) ?_ | refine dC (gN rfl rfl rfl (oD ty3 rfl rfl rfl)) ?_
    all_goals first | refine dC (gF rfl rfl rfl rfl rfl) ?_ | refine dC (gN rfl rfl rfl (oL fb80 (.cons rfl (Conv.of rfl) (.nil _)) (l3Leader_ct _ (by show -1000 ≤ n.epoch ∧ n.epoch ≤ 1000000; omega)) (aK rfl rfl aK0) rfl rfl)) ?_
    all_goals first | refine dC (gF rfl rfl rfl rfl rfl) ?_ | refine dC (gN rfl rfl rfl (oF f90_0_NodS rfl rfl)) ?_
    all_goals first | refine dC (gF rfl rfl rfl rfl rfl) ?_ | refine dC (gN rfl rfl rfl (oD ty3 rfl rfl rfl)) ?_
    all_goals first | refine dC (gF rfl rfl rfl rfl rfl) ?_ | refine dC (gN rfl rfl rfl (op_neq rfl rfl rfl)) ?_
    all_goals refine dC (oQ rfl rfl rfl rfl) ?_
    all_goals refine dr_nil mixed rfl ?_
    all_goals exact Le.mk rfl (tlb rfl rfl rfl (tlb rfl rfl rfl (tlb rfl rfl rfl (tlb rfl rfl rfl (tle rfl (rfl) rfl (tle rfl (by (clear htip; simp_all [sN]; try (rw [Bool.eq_iff_iff]; simp))) rfl tln)))))) (olk rfl (by exact obOkN) (olk rfl (by exact bC) (olk rfl (by exact obOkN) (olk rfl (by exact bC) oln)))) noS
  refine aC rfl (fun h => ?_) (fun h => ?_)
  · all_goals refine aS (aR ?_)
    all_goals refine oC (op_ldm ty90_NodS rfl rfl rfl) ?_
    all_goals refine oC (op_build (.nil _) z38 rfl pl38 rfl) ?_
    all_goals refine oC (op_stm ty90_NodS rfl rfl rfl) ?_
    all_goals refine oC (op_st ty38 rfl rfl (Conv.of rfl) rfl) ?_
    all_goals refine oC (oA rfl (Conv.of rfl) rfl) ?_
    all_goals refine oN ?_
    refine aT ?_
    repeat first | refine rS ?_ | refine rB ?_
    refine ⟨_, _, rNM (ol := []) (.cell ty90_NodS rfl rfl (.keep (.rc ty38 rfl rfl) (.keep (.v rfl (Conv.of rfl)) (.nil _)))) rfl (fun o ho => absurd (show o ∈ ([] : List Nat) from ho) (by simp)) oln noS, ?_, rfl⟩
    rw [proposeS, h, if_pos rfl]; rfl
  · refine aW ?_
    all_goals refine aS (dS ?_)
    all_goals refine dC (oF f90_3_NodS rfl rfl) ?_
    all_goals refine dC (op_ldl ty24_OListVote rfl rfl rfl) ?_
    all_goals refine dC (oL fb161 (.cons rfl (Conv.of rfl) (.nil _)) (l11Tip_ct _ hn.l hn.v) (aK rfl rfl aK0) rfl rfl) ?_
    all_goals refine dC (oL fb107 (.cons rfl (Conv.of rfl) (.nil _)) (l1Copy_ct _ (by show (tipOfS n.seen).length ≤ 1000000; omega)) (aK rfl rfl aK0) rfl rfl) ?_
    all_goals refine dC (oF f90_1_NodS rfl rfl) ?_
    all_goals refine dC (oD ty3 rfl rfl rfl) ?_
    all_goals refine dC (oD ty75 rfl rfl rfl) ?_
    all_goals refine dC (op_build (.cons f143_0 rfl (Conv.of rfl) (.cons f143_1 rfl (Conv.of rfl) (.nil _))) z143 rfl pl143 rfl) ?_
    all_goals refine dC (op_bsl sl27 z143 (.cons rfl (Conv.of rfl) (.nil _)) rfl (by decide) rfl) ?_
    all_goals refine dC (op_app sl27 z143 ul27 rfl rfl rfl (by (simp [sN]; omega)) (by (simp [sN]; omega)) rfl rfl) ?_
    all_goals refine dC (op_asl rfl rfl rfl rfl) ?_
    all_goals refine dr_nil mixed rfl ?_
    all_goals refine aS (aS (aR ?_))
    all_goals refine oC (oM rfl Conv.ol rfl) ?_
    all_goals refine oC (oL fb104 (.cons rfl (Conv.of rfl) (.nil _)) (sChainOk_ct _) (aK rfl rfl aK0) rfl rfl) ?_
    all_goals refine oC (op_not rfl rfl) ?_
    all_goals refine oN ?_
    refine aC rfl (fun h2 => ?_) (fun h2 => ?_)
    · all_goals refine aS (aR ?_)
      all_goals refine oC (op_ldm ty90_NodS rfl rfl rfl) ?_
      all_goals refine oC (op_build (.nil _) z38 rfl pl38 rfl) ?_
      all_goals refine oC (op_stm ty90_NodS rfl rfl rfl) ?_
      all_goals refine oC (op_st ty38 rfl rfl (Conv.of rfl) rfl) ?_
      all_goals refine oC (oA rfl (Conv.of rfl) rfl) ?_
      all_goals refine oN ?_
      refine aT ?_
      repeat first | refine rS ?_ | refine rB ?_
      refine ⟨_, _, rNM (ol := []) (.cell ty90_NodS rfl rfl (.keep (.rc ty38 rfl rfl) (.keep (.v rfl (Conv.of rfl)) (.nil _)))) rfl (fun o ho => absurd (show o ∈ ([] : List Nat) from ho) (by simp)) oln noS, ?_, rfl⟩
      have h2' := not_t h2
      rw [proposeS, h, if_neg (by decide), if_neg (by rw [show chainOk (tipOfS n.seen ++ [⟨n.epoch, p⟩]) = false from h2']; decide)]; rfl
    · have h2' := not_f h2
      refine aW ?_
      all_goals refine aS (aR ?_)
      all_goals refine oC (op_ldm ty90_NodS rfl rfl rfl) ?_
      all_goals refine oC (oM rfl Conv.ol rfl) ?_
      all_goals refine oC (oLM (s := 43) (ol := []) (ol' := []) (pre := []) fb162 (.nil _) rfl (.cons rfl (Conv.of rfl) (.nil _)) (l12Vote_ct n _ hn (by simp [sN]; omega)) ols0 k0 k0 rfl argO0 (argOk' rfl rfl argO0) (fun o ho => absurd (show o ∈ ([] : List Nat) from ho) (by simp)) (fun o ho => absurd (show o ∈ ([] : List Nat) from ho) (by simp)) rfl) ?_
      all_goals refine oC (op_extm rfl rfl rfl rfl) ?_
      all_goals refine oC (op_ext rfl rfl rfl) ?_
      all_goals refine oC (op_ext rfl rfl rfl) ?_
      all_goals refine oC (op_stm ty90_NodS rfl rfl rfl) ?_
      all_goals refine oC (op_st ty38 rfl rfl (Conv.of rfl) rfl) ?_
      all_goals refine oC (oA rfl (Conv.of rfl) rfl) ?_
      all_goals refine oN ?_
      refine aT ?_
      repeat first | refine rS ?_ | refine rB ?_
      refine ⟨_, _, rNM (ol := []) (.cell ty90_NodS rfl rfl (.keep (.rc ty38 rfl rfl) (.keep (.v rfl (Conv.of rfl)) (.nil _)))) rfl (fun o ho => absurd (show o ∈ ([] : List Nat) from ho) (by simp)) oln noS, ?_, rfl⟩
      rw [proposeS, h, if_neg (by decide), if_pos (show chainOk (tipOfS n.seen ++ [⟨n.epoch, p⟩]) = true from h2')]
      show AV.tup _ = AV.tup _
      rfl
end Go.Proofs.YtmhmeppocbcmeaaGreat

/- The reference: new nodes; room for votes. -/
set_option linter.unusedVariables false
set_option linter.unusedSimpArgs false
namespace Go.Proofs.YtmhmeppocbcmeaaGreat
open Go Go.Wt
theorem sNodeNew_ct (i : Int) (hi : within i 1 4 = true) : CtP Tryz.prog 116 [.v i] (.tup [.v (NodC.mk i 0 0 ⟨[]⟩), .v true]) := by
  refine Ct.intro Tryz.func116 rfl rfl ?_
  refine aS (aR ?_)
  refine oC (oX (o := 0) z90_NodC rfl rfl) ?_
  refine oC (oA rfl (Conv.of rfl) rfl) ?_
  refine oN ?_
  refine aS (aS (aR ?_))
  refine oC (oM rfl (Conv.of rfl) rfl) ?_
  refine oC (oL fb50 (.cons rfl (Conv.of rfl) (.cons rfl (Conv.of rfl) (.cons rfl (Conv.of rfl) (.nil _)))) (l6In_ct _ _ _) (aK rfl rfl (aK rfl rfl (aK rfl rfl aK0))) rfl rfl) ?_
  refine oC (op_not rfl rfl) ?_
  refine oN ?_
  refine aC rfl (fun h => absurd (not_t h) (by rw [hi]; decide)) (fun h => ?_)
  refine aW ?_
  refine aS (aR ?_)
  refine oC (oM rfl (Conv.of rfl) rfl) ?_
  refine oC (op_bsc sl24 z38 (.nil _) rfl (by decide) rfl) ?_
  refine oC (op_build (.cons f90_0_NodC rfl (Conv.of rfl) (.cons f90_3_NodC rfl (Conv.of rfl) (.nil _))) z90_NodC rfl pl90 rfl) ?_
  refine oC (op_st ty90_NodC rfl rfl (Conv.of rfl) rfl) ?_
  refine oC (oA rfl (Conv.of rfl) rfl) ?_
  refine oN ?_
  refine aT ?_
  repeat first | refine rS ?_ | refine rB ?_
  exact finN (.cons (.rc ty90_NodC rfl rfl) (.cons (.v rfl (Conv.of rfl)) .nil)) rfl rfl rfl
theorem l21Send_ct (w : Wrld) (v : Vote) (ok : Bool) (ns : List NodS) (hl : Gd w.log) (hv : v.chain.length ≤ 1000000) : CtO Tryz.prog 118 [.v (sW w), .v v, .v ok] [(1, .arr ns)] (.v (sW (if ok then sendF w v else w))) [(1, .arr ns)] := by
  have hlen := hl.len
  unfold sW
  refine Ct.intro Tryz.func118 rfl rfl ?_
  all_goals refine aS (aR ?_)
  all_goals refine oC (op_boxm (o := 5) ty26_WrldS rfl rfl rfl rfl) ?_
  all_goals refine oC (op_box (o := 6) ty38 rfl (Conv.of rfl) rfl rfl) ?_
  all_goals refine oC (oX (o := 7) z26_WrldS rfl rfl) ?_
  all_goals refine oN ?_
  refine aS (aST (s' := mkSt 26 [(3, .box 5 (IsLens.whole WrldS)), (4, .box 6 (IsLens.whole Vote)), (6, .box 7 (IsLens.whole WrldS)), (15, .v (ok && decide (w.log.length < 80)))] [(1, .arr ns), (5, .cell (sW w)), (6, .cell v), (7, .cell WrldS.zero)]) ?_ ?_)
  · all_goals refine aR ?_
    all_goals refine oC (oM rfl (Conv.of rfl) rfl) ?_
    all_goals refine oC (oM rfl (Conv.of rfl) rfl) ?_
    all_goals refine g_split (t := 10) rfl (fun h => ?_) (fun h => ?_)
    all_goals first | refine oC (gF rfl rfl rfl rfl rfl) ?_ | refine oC (gN rfl rfl rfl (oF f26_2_WrldS rfl rfl)) ?_
    all_goals first | refine oC (gF rfl rfl rfl rfl rfl) ?_ | refine oC (gN rfl rfl rfl (op_ldl ty24_OListVote rfl rfl rfl)) ?_
    all_goals first | refine oC (gF rfl rfl rfl rfl rfl) ?_ | refine oC (gN rfl rfl rfl (oE sl24 rfl rfl)) ?_
    all_goals first | refine oC (gF rfl rfl rfl rfl rfl) ?_ | refine oC (gN rfl rfl rfl (oLt rfl rfl rfl)) ?_
    all_goals refine oC (oQ rfl rfl rfl rfl) ?_
    all_goals refine oN ?_
    all_goals exact Le.mk rfl (tlb rfl rfl rfl (tlb rfl rfl rfl (tlb rfl rfl rfl (tle rfl (by (simp_all; try omega)) rfl tln)))) (olk rfl (by exact bN) (olk rfl (by exact obOkS rfl) (olk rfl (by exact bC) (olk rfl (by exact obOkS0) oln)))) (hU (a := [(1, .arr ns)]) rfl)
  refine aC rfl (fun h => ?_) (fun h => ?_)
  · all_goals refine aS (aR ?_)
    all_goals refine oC (oF f26_2_WrldS rfl rfl) ?_
    all_goals refine oC (op_ldm ty24_OListVote rfl rfl rfl) ?_
    all_goals refine oC (oD ty38 rfl rfl rfl) ?_
    all_goals refine oC (oLM (s := 18) (ol := []) (ol' := []) (pre := []) fb146 (.nil _) rfl (.cons rfl (Conv.of rfl) (.nil _)) (l3Add_ct w.log v hl.l' hv) ols0 k0 k0 rfl argO0 (argOk' rfl rfl argO0) (fun o ho => absurd (show o ∈ ([] : List Nat) from ho) (by simp)) (fun o ho => absurd (show o ∈ ([] : List Nat) from ho) (by simp)) rfl) ?_
    all_goals refine oC (op_mvo rfl rfl rfl rfl) ?_
    all_goals refine oC (op_extm rfl rfl rfl rfl) ?_
    all_goals refine oC (op_ext rfl rfl rfl) ?_
    all_goals refine oC (op_asl rfl rfl rfl rfl) ?_
    all_goals refine oC (oA rfl (Conv.of rfl) rfl) ?_
    all_goals refine oN ?_
    all_goals refine aR ?_
    all_goals refine oC (op_mvl rfl rfl rfl rfl) ?_
    all_goals refine oC (oF f26_2_WrldS rfl rfl) ?_
    all_goals refine oC (op_stm ty24_OListVote rfl rfl rfl) ?_
    all_goals refine oN ?_
    all_goals refine aS (aR ?_)
    all_goals refine oC (op_ldm ty26_WrldS rfl rfl rfl) ?_
    all_goals refine oC (op_stm ty26_WrldS rfl rfl rfl) ?_
    all_goals refine oN ?_
    refine aT ?_
    repeat first | refine rS ?_ | refine rB ?_
    refine ⟨_, _, res1C (ol := [(1, .arr ns)]) ty26_WrldS rfl rfl (fun o ho => ?_) (olk rfl bN oln) (hU rfl), ?_, rfl⟩
    · have : o = 1 := by simpa using (show o ∈ [1] from ho)
      subst this; rfl
    · simp only [Bool.and_eq_true, decide_eq_true_eq] at h
      obtain ⟨rfl, h2⟩ := h
      show AV.v (WrldS.mk w.epoch (.ref 1) ⟨if decide (v ∈ w.log) then w.log else w.log ++ [v], true⟩ w.bad) = _
      by_cases hm : v ∈ w.log <;> simp [sendF, hm, h2, sW]
  · refine aW ?_
    all_goals refine aS (aR ?_)
    all_goals refine oC (op_ldm ty26_WrldS rfl rfl rfl) ?_
    all_goals refine oC (op_stm ty26_WrldS rfl rfl rfl) ?_
    all_goals refine oN ?_
    refine aT ?_
    repeat first | refine rS ?_ | refine rB ?_
    refine ⟨_, _, res1C (ol := [(1, .arr ns)]) ty26_WrldS rfl rfl (fun o ho => ?_) (olk rfl bN oln) (hU rfl), ?_, rfl⟩
    · have : o = 1 := by simpa using (show o ∈ [1] from ho)
      subst this; rfl
    · show AV.v (sW w) = _
      cases ok with
      | false => rfl
      | true =>
        have h2 : ¬ w.log.length < 80 := by simpa using h
        simp [sendF, h2]
        rfl
end Go.Proofs.YtmhmeppocbcmeaaGreat

/- The reference: room for votes. -/
set_option linter.unusedVariables false
set_option linter.unusedSimpArgs false
namespace Go.Proofs.YtmhmeppocbcmeaaGreat
open Go Go.Wt
theorem l21Room_ct (w : Wrld) (ns : List NodS) : CtO Tryz.prog 133 [.v (fW w)] [(1, .arr ns)] (.v (decide (w.log.length < 80))) [(1, .arr ns)] := by
  unfold fW
  refine Ct.intro Tryz.func133 rfl rfl ?_
  refine aS (aR ?_)
  refine oC (op_box (o := 5) ty26_WrldS rfl (Conv.of rfl) rfl rfl) ?_
  refine oC (oA rfl (Conv.of rfl) rfl) ?_
  refine oN ?_
  refine aS (aR ?_)
  refine oC (oF f26_2_WrldS rfl rfl) ?_
  refine oC (op_ldl ty24_OListVote rfl rfl rfl) ?_
  refine oC (oE sl24 rfl rfl) ?_
  refine oC (oLt rfl rfl rfl) ?_
  refine oC (oA rfl (Conv.of rfl) rfl) ?_
  refine oN ?_
  refine aT ?_
  repeat first | refine rS ?_ | refine rB ?_
  refine finO1 [(1, .arr ns)] (.v rfl (Conv.of rfl)) (fun o ho => by cases ho) (olk rfl bN oln) (hK rfl) ?_
  show AV.v _ = AV.v _
  congr 1
  rw [decide_eq_decide]
  show (w.log.length : Int) < 80 ↔ _
  omega
end Go.Proofs.YtmhmeppocbcmeaaGreat

/- The reference: a new world. -/
set_option linter.unusedVariables false
set_option linter.unusedSimpArgs false
namespace Go.Proofs.YtmhmeppocbcmeaaGreat
open Go Go.Wt
def newC (i : Int) : NodC := ⟨i, 0, 0, ⟨[]⟩⟩
theorem sWorldNew_ct (bad : Int) (hb : within bad 0 4 = true) : Ct Tryz.prog 62 [.v bad] noObj (fun r1 h1 => r1 = .tup [.v (sW (newW bad)), .v true] ∧ h1 = obs [(1, .arr ([newC 1, newC 2, newC 3, newC 4] : List NodC))]) := by
  refine Ct.intro Tryz.func62 rfl rfl ?_
  refine aS (aR ?_)
  refine oC (oX (o := 5) z26_WrldS rfl rfl) ?_
  refine oC (oA rfl (Conv.of rfl) rfl) ?_
  refine oN ?_
  refine aS (aS (aR ?_))
  refine oC (oM rfl (Conv.of rfl) rfl) ?_
  refine oC (oL fb50 (.cons rfl (Conv.of rfl) (.cons rfl (Conv.of rfl) (.cons rfl (Conv.of rfl) (.nil _)))) (l6In_ct _ _ _) (aK rfl rfl (aK rfl rfl (aK rfl rfl aK0))) rfl rfl) ?_
  refine oC (op_not rfl rfl) ?_
  refine oN ?_
  refine aC rfl (fun h => absurd (not_t h) (by rw [hb]; decide)) (fun h => ?_)
  refine aW ?_
  refine aS (aR ?_)
  refine oC (oM rfl (Conv.of rfl) rfl) ?_
  refine oC (op_bsc sl24 z38 (.nil _) rfl (by decide) rfl) ?_
  refine oC (op_build (.cons f26_3_WrldS rfl (Conv.of rfl) (.cons f26_2_WrldS rfl (Conv.co) (.nil _))) z26_WrldS rfl pl26 rfl) ?_
  refine oC (oX (o := 0) z26_WrldS rfl rfl) ?_
  refine oC (op_stm ty26_WrldS rfl rfl rfl) ?_
  refine oN ?_
  refine aS (aS (aR ?_))
  refine oC (oA rfl (Conv.of rfl) rfl) ?_
  refine oN ?_
  refine aB ?_
  refine awp_loop' (fun n s => (n = 4 ∧ s = mkSt 31 [(2, .box 5 (IsLens.whole WrldS)), (4, .box 0 (IsLens.whole WrldS)), (5, .v (1 : Int))] [(0, .cell (WrldS.mk 0 .nil ⟨[], true⟩ bad)), (5, .cell WrldS.zero)]) ∨ (n = 3 ∧ s = mkSt 31 [(2, .box 5 (IsLens.whole WrldS)), (4, .box 0 (IsLens.whole WrldS)), (5, .v (2 : Int))] [(0, .cell (WrldS.mk 0 (.ref 11) ⟨[], true⟩ bad)), (5, .cell WrldS.zero), (11, .arr ([newC 1] : List NodC))]) ∨ (n = 2 ∧ s = mkSt 31 [(2, .box 5 (IsLens.whole WrldS)), (4, .box 0 (IsLens.whole WrldS)), (5, .v (3 : Int))] [(0, .cell (WrldS.mk 0 (.ref 12) ⟨[], true⟩ bad)), (5, .cell WrldS.zero), (12, .arr ([newC 1, newC 2] : List NodC))]) ∨ (n = 1 ∧ s = mkSt 31 [(2, .box 5 (IsLens.whole WrldS)), (4, .box 0 (IsLens.whole WrldS)), (5, .v (4 : Int))] [(0, .cell (WrldS.mk 0 (.ref 13) ⟨[], true⟩ bad)), (5, .cell WrldS.zero), (13, .arr ([newC 1, newC 2, newC 3] : List NodC))]) ∨ (n = 0 ∧ s = mkSt 31 [(2, .box 5 (IsLens.whole WrldS)), (4, .box 0 (IsLens.whole WrldS)), (5, .v (5 : Int))] [(0, .cell (WrldS.mk 0 (.ref 1) ⟨[], true⟩ bad)), (5, .cell WrldS.zero), (1, .arr ([newC 1, newC 2, newC 3, newC 4] : List NodC))])) 4 (.inl ⟨rfl, rfl⟩) (Le.mk rfl (tlb rfl rfl rfl (tlb rfl rfl rfl (tle rfl (rfl) rfl tln))) (olk rfl (by exact obOkS0) (olk rfl (by exact obOkS0) oln)) noS) ?_
  rintro n s (⟨rfl, rfl⟩|⟨rfl, rfl⟩|⟨rfl, rfl⟩|⟨rfl, rfl⟩|⟨rfl, rfl⟩)
  · refine aS (aS (aR ?_))
    refine oC (oM rfl (Conv.of rfl) rfl) ?_
    refine oC (op_leq rfl rfl rfl) ?_
    refine oN ?_
    refine aC rfl (fun h => ?_) (fun h => absurd h (by decide))
    refine aW ?_
    refine aS (aB ?_)
    refine aS (aR ?_)
    refine oC (oM rfl (Conv.of rfl) rfl) ?_
    refine oC (oL fb116 (.cons rfl (Conv.of rfl) (.nil _)) (sNodeNew_ct 1 rfl) (aK rfl rfl aK0) rfl rfl) ?_
    refine oC (oM rfl (Conv.of rfl) rfl) ?_
    refine oC (op_ext rfl rfl rfl) ?_
    refine oC (op_ext rfl rfl rfl) ?_
    refine oC (oX (o := 6) z90_NodC rfl rfl) ?_
    refine oC (op_st ty90_NodC rfl rfl (Conv.of rfl) rfl) ?_
    refine oC (oA rfl (Conv.of rfl) rfl) ?_
    refine oN ?_
    refine aR ?_
    refine oC (oF f26_1_WrldS rfl rfl) ?_
    refine oC (oD ty23_NRef rfl rfl rfl) ?_
    refine oC (oD ty90_NodC rfl rfl rfl) ?_
    refine oC (op_bsl sl23_NodC z90_NodC (.cons rfl (Conv.of rfl) (.nil _)) rfl (by decide) rfl) ?_
    refine oC (op_apN (o' := 11) sl23_NodC z90_NodC ul23 rfl rfl rfl (by simp) (by simp) (by simp) rfl) ?_
    refine oC (oF f26_1_WrldS rfl rfl) ?_
    refine oC (op_st ty23_NRef rfl rfl (Conv.of rfl) rfl) ?_
    refine oN ?_
    refine aR ?_
    refine oC (oM rfl (Conv.of rfl) rfl) ?_
    refine oC (oP rfl rfl rfl (by omega)) ?_
    refine oC (oA rfl (Conv.of rfl) rfl) ?_
    refine oN ?_
    repeat first | refine nS ?_ | refine nB ?_
    exact ⟨3, _, by decide, .inr (.inl ⟨rfl, rfl⟩), Le.mk rfl (tlb rfl rfl rfl (tlb rfl rfl rfl (tle rfl (rfl) rfl tln))) (olk rfl (by exact obOkS rfl) (olk rfl (by exact obOkS0) (olk rfl (by exact bA) oln))) noS⟩
  · refine aS (aS (aR ?_))
    refine oC (oM rfl (Conv.of rfl) rfl) ?_
    refine oC (op_leq rfl rfl rfl) ?_
    refine oN ?_
    refine aC rfl (fun h => ?_) (fun h => absurd h (by decide))
    refine aW ?_
    refine aS (aB ?_)
    refine aS (aR ?_)
    refine oC (oM rfl (Conv.of rfl) rfl) ?_
    refine oC (oL fb116 (.cons rfl (Conv.of rfl) (.nil _)) (sNodeNew_ct 2 rfl) (aK rfl rfl aK0) rfl rfl) ?_
    refine oC (oM rfl (Conv.of rfl) rfl) ?_
    refine oC (op_ext rfl rfl rfl) ?_
    refine oC (op_ext rfl rfl rfl) ?_
    refine oC (oX (o := 6) z90_NodC rfl rfl) ?_
    refine oC (op_st ty90_NodC rfl rfl (Conv.of rfl) rfl) ?_
    refine oC (oA rfl (Conv.of rfl) rfl) ?_
    refine oN ?_
    refine aR ?_
    refine oC (oF f26_1_WrldS rfl rfl) ?_
    refine oC (oD ty23_NRef rfl rfl rfl) ?_
    refine oC (oD ty90_NodC rfl rfl rfl) ?_
    refine oC (op_bsl sl23_NodC z90_NodC (.cons rfl (Conv.of rfl) (.nil _)) rfl (by decide) rfl) ?_
    refine oC (op_apA (o' := 12) sl23_NodC z90_NodC ul23 rfl rfl rfl rfl (by simp) (by simp) (by simp) rfl) ?_
    refine oC (oF f26_1_WrldS rfl rfl) ?_
    refine oC (op_st ty23_NRef rfl rfl (Conv.of rfl) rfl) ?_
    refine oN ?_
    refine aR ?_
    refine oC (oM rfl (Conv.of rfl) rfl) ?_
    refine oC (oP rfl rfl rfl (by omega)) ?_
    refine oC (oA rfl (Conv.of rfl) rfl) ?_
    refine oN ?_
    repeat first | refine nS ?_ | refine nB ?_
    exact ⟨2, _, by decide, .inr (.inr (.inl ⟨rfl, rfl⟩)), Le.mk rfl (tlb rfl rfl rfl (tlb rfl rfl rfl (tle rfl (rfl) rfl tln))) (olk rfl (by exact obOkS rfl) (olk rfl (by exact obOkS0) (olk rfl (by exact bA) oln))) noS⟩
  · refine aS (aS (aR ?_))
    refine oC (oM rfl (Conv.of rfl) rfl) ?_
    refine oC (op_leq rfl rfl rfl) ?_
    refine oN ?_
    refine aC rfl (fun h => ?_) (fun h => absurd h (by decide))
    refine aW ?_
    refine aS (aB ?_)
    refine aS (aR ?_)
    refine oC (oM rfl (Conv.of rfl) rfl) ?_
    refine oC (oL fb116 (.cons rfl (Conv.of rfl) (.nil _)) (sNodeNew_ct 3 rfl) (aK rfl rfl aK0) rfl rfl) ?_
    refine oC (oM rfl (Conv.of rfl) rfl) ?_
    refine oC (op_ext rfl rfl rfl) ?_
    refine oC (op_ext rfl rfl rfl) ?_
    refine oC (oX (o := 6) z90_NodC rfl rfl) ?_
    refine oC (op_st ty90_NodC rfl rfl (Conv.of rfl) rfl) ?_
    refine oC (oA rfl (Conv.of rfl) rfl) ?_
    refine oN ?_
    refine aR ?_
    refine oC (oF f26_1_WrldS rfl rfl) ?_
    refine oC (oD ty23_NRef rfl rfl rfl) ?_
    refine oC (oD ty90_NodC rfl rfl rfl) ?_
    refine oC (op_bsl sl23_NodC z90_NodC (.cons rfl (Conv.of rfl) (.nil _)) rfl (by decide) rfl) ?_
    refine oC (op_apA (o' := 13) sl23_NodC z90_NodC ul23 rfl rfl rfl rfl (by simp) (by simp) (by simp) rfl) ?_
    refine oC (oF f26_1_WrldS rfl rfl) ?_
    refine oC (op_st ty23_NRef rfl rfl (Conv.of rfl) rfl) ?_
    refine oN ?_
    refine aR ?_
    refine oC (oM rfl (Conv.of rfl) rfl) ?_
    refine oC (oP rfl rfl rfl (by omega)) ?_
    refine oC (oA rfl (Conv.of rfl) rfl) ?_
    refine oN ?_
    repeat first | refine nS ?_ | refine nB ?_
    exact ⟨1, _, by decide, .inr (.inr (.inr (.inl ⟨rfl, rfl⟩))), Le.mk rfl (tlb rfl rfl rfl (tlb rfl rfl rfl (tle rfl (rfl) rfl tln))) (olk rfl (by exact obOkS rfl) (olk rfl (by exact obOkS0) (olk rfl (by exact bA) oln))) noS⟩
  · refine aS (aS (aR ?_))
    refine oC (oM rfl (Conv.of rfl) rfl) ?_
    refine oC (op_leq rfl rfl rfl) ?_
    refine oN ?_
    refine aC rfl (fun h => ?_) (fun h => absurd h (by decide))
    refine aW ?_
    refine aS (aB ?_)
    refine aS (aR ?_)
    refine oC (oM rfl (Conv.of rfl) rfl) ?_
    refine oC (oL fb116 (.cons rfl (Conv.of rfl) (.nil _)) (sNodeNew_ct 4 rfl) (aK rfl rfl aK0) rfl rfl) ?_
    refine oC (oM rfl (Conv.of rfl) rfl) ?_
    refine oC (op_ext rfl rfl rfl) ?_
    refine oC (op_ext rfl rfl rfl) ?_
    refine oC (oX (o := 6) z90_NodC rfl rfl) ?_
    refine oC (op_st ty90_NodC rfl rfl (Conv.of rfl) rfl) ?_
    refine oC (oA rfl (Conv.of rfl) rfl) ?_
    refine oN ?_
    refine aR ?_
    refine oC (oF f26_1_WrldS rfl rfl) ?_
    refine oC (oD ty23_NRef rfl rfl rfl) ?_
    refine oC (oD ty90_NodC rfl rfl rfl) ?_
    refine oC (op_bsl sl23_NodC z90_NodC (.cons rfl (Conv.of rfl) (.nil _)) rfl (by decide) rfl) ?_
    refine oC (op_apA (o' := 1) sl23_NodC z90_NodC ul23 rfl rfl rfl rfl (by simp) (by simp) (by simp) rfl) ?_
    refine oC (oF f26_1_WrldS rfl rfl) ?_
    refine oC (op_st ty23_NRef rfl rfl (Conv.of rfl) rfl) ?_
    refine oN ?_
    refine aR ?_
    refine oC (oM rfl (Conv.of rfl) rfl) ?_
    refine oC (oP rfl rfl rfl (by omega)) ?_
    refine oC (oA rfl (Conv.of rfl) rfl) ?_
    refine oN ?_
    repeat first | refine nS ?_ | refine nB ?_
    exact ⟨0, _, by decide, .inr (.inr (.inr (.inr (⟨rfl, rfl⟩)))), Le.mk rfl (tlb rfl rfl rfl (tlb rfl rfl rfl (tle rfl (rfl) rfl tln))) (olk rfl (by exact obOkS rfl) (olk rfl (by exact obOkS0) (olk rfl (by exact bA) oln))) noS⟩
  · refine aS (aS (aR ?_))
    refine oC (oM rfl (Conv.of rfl) rfl) ?_
    refine oC (op_leq rfl rfl rfl) ?_
    refine oN ?_
    refine aC rfl (fun h => absurd h (by decide)) (fun h => ?_)
    refine aE ?_
    repeat refine ex_seq ?_
    refine eB ?_
    refine aS (aR ?_)
    refine oC (op_ldm ty26_WrldS rfl rfl rfl) ?_
    refine oC (op_stm ty26_WrldS rfl rfl rfl) ?_
    refine oC (oA rfl (Conv.of rfl) rfl) ?_
    refine oN ?_
    refine aT ?_
    repeat first | refine rS ?_ | refine rB ?_
    refine ⟨_, _, rNM (ol := [(1, .arr ([newC 1, newC 2, newC 3, newC 4] : List NodC))]) (.cell ty26_WrldS rfl rfl (.keep (.v rfl (Conv.of rfl)) (.nil _))) rfl (fun o ho => ?_) (olk rfl bA oln) noS, rfl, rfl⟩
    have : o = 1 := by simpa using (show o ∈ [1] from ho)
    subst this; rfl
end Go.Proofs.YtmhmeppocbcmeaaGreat

/- The reference: a node hears. -/
set_option linter.unusedVariables false
set_option linter.unusedSimpArgs false
namespace Go.Proofs.YtmhmeppocbcmeaaGreat
open Go Go.Wt
set_option maxHeartbeats 2000000 in
theorem l12Try_ct (n : Nod) (hn : Gd n.seen) (he : 0 ≤ n.epoch ∧ n.epoch ≤ 30) : CtP Tryz.prog 170 [.v (sN n)] (res3S (tryAllS n)) := by
  have htip := hn.tipS
  have hlen := hn.len
  refine Ct.intro Tryz.func170 rfl rfl ?_
  all_goals refine aS (aR ?_)
  all_goals refine oC (op_boxm (o := 0) ty90_NodS rfl rfl rfl rfl) ?_
  all_goals refine oC (oX (o := 1) z90_NodS rfl rfl) ?_
  all_goals refine oC (oX (o := 2) z38 rfl rfl) ?_
  all_goals refine oC (oA rfl (Conv.of rfl) rfl) ?_
  all_goals refine oN ?_
  refine aS (aST (s' := mkSt 51 [(1, .box 0 (IsLens.whole NodS)), (2, .box 1 (IsLens.whole NodS)), (3, .box 2 (IsLens.whole Vote)), (4, .v false), (16, .v (decide (n.epoch = 0) || decide (n.voted = n.epoch)))] [(0, .cell (sN n)), (1, .cell NodS.zero), (2, .cell Vote.zero)]) ?_ ?_)
  · all_goals refine aR ?_
    all_goals refine oC (oF f90_1_NodS rfl rfl) ?_
    all_goals refine oC (oD ty3 rfl rfl rfl) ?_
    all_goals refine oC (op_eql rfl rfl rfl) ?_
    all_goals refine oC (oM rfl (Conv.of rfl) rfl) ?_
    all_goals refine g_split (t := 10) rfl (fun h => ?_) (fun h => ?_)
    all_goals first | refine oC (gF rfl rfl rfl rfl rfl) ?_ | refine oC (gN rfl rfl rfl (oF f90_2_NodS rfl rfl)) ?_
    all_goals first | refine oC (gF rfl rfl rfl rfl rfl) ?_ | refine oC (gN rfl rfl rfl (oD ty3 rfl rfl rfl)) ?_
    all_goals first | refine oC (gF rfl rfl rfl rfl rfl) ?_ | refine oC (gN rfl rfl rfl (oF f90_1_NodS rfl rfl)) ?_
    all_goals first | refine oC (gF rfl rfl rfl rfl rfl) ?_ | refine oC (gN rfl rfl rfl (oD ty3 rfl rfl rfl)) ?_
    all_goals first | refine oC (gF rfl rfl rfl rfl rfl) ?_ | refine oC (gN rfl rfl rfl (op_eql rfl rfl rfl)) ?_
    all_goals refine oC (oQ rfl rfl rfl rfl) ?_
    all_goals refine oN ?_
    all_goals exact Le.mk rfl (tlb rfl rfl rfl (tlb rfl rfl rfl (tlb rfl rfl rfl (tle rfl (rfl) rfl (tle rfl (by (clear htip; simp_all [sN]; try (rw [Bool.eq_iff_iff]; simp))) rfl tln))))) (olk rfl (by exact obOkN) (olk rfl (by exact obOkN) (olk rfl (by exact bC) oln))) noS
  refine aC rfl (fun h => ?_) (fun h => ?_)
  · all_goals refine aS (aR ?_)
    all_goals refine oC (op_ldm ty90_NodS rfl rfl rfl) ?_
    all_goals refine oC (op_build (.nil _) z38 rfl pl38 rfl) ?_
    all_goals refine oC (op_stm ty90_NodS rfl rfl rfl) ?_
    all_goals refine oC (op_st ty38 rfl rfl (Conv.of rfl) rfl) ?_
    all_goals refine oC (oA rfl (Conv.of rfl) rfl) ?_
    all_goals refine oN ?_
    refine aT ?_
    repeat first | refine rS ?_ | refine rB ?_
    refine ⟨_, _, rNM (ol := []) (.cell ty90_NodS rfl rfl (.keep (.rc ty38 rfl rfl) (.keep (.v rfl (Conv.of rfl)) (.nil _)))) rfl (fun o ho => absurd (show o ∈ ([] : List Nat) from ho) (by simp)) oln noS, ?_, rfl⟩
    rw [tryAllS, h, if_pos rfl]; rfl
  · have hres : tryAllS n = tryS n (tipOfS n.seen).length n.seen := by rw [tryAllS, h]; rfl
    refine aW ?_
    all_goals refine aS (aR ?_)
    all_goals refine oC (oF f90_3_NodS rfl rfl) ?_
    all_goals refine oC (op_ldl ty24_OListVote rfl rfl rfl) ?_
    all_goals refine oC (oL fb161 (.cons rfl (Conv.of rfl) (.nil _)) (l11Tip_ct _ hn.l hn.v) (aK rfl rfl aK0) rfl rfl) ?_
    all_goals refine oC (oE sl27 rfl rfl) ?_
    all_goals refine oC (oA rfl (Conv.of rfl) rfl) ?_
    all_goals refine oN ?_
    all_goals refine aS (aS (aR ?_))
    all_goals refine oC (oA rfl (Conv.of rfl) rfl) ?_
    all_goals refine oN ?_
    refine aB ?_
    refine awp_loop' (fun n_ s => ∃ (k : Nat), ∃ (hk : n_ + k = n.seen.length), ∃ (hall : tryS n (tipOfS n.seen).length (n.seen.drop k) = tryAllS n), s = mkSt 51 [(1, .box 0 (IsLens.whole NodS)), (2, .box 1 (IsLens.whole NodS)), (3, .box 2 (IsLens.whole Vote)), (5, .v ((tipOfS n.seen).length : Int)), (6, .v (k : Int))] [(0, .cell (sN n)), (1, .cell NodS.zero), (2, .cell Vote.zero)]) (n.seen.length) ⟨0, by omega, by rw [hres]; rfl, rfl⟩ (Le.mk rfl (tlb rfl rfl rfl (tlb rfl rfl rfl (tlb rfl rfl rfl (tle rfl (rfl) rfl (tle rfl (rfl) rfl tln))))) (olk rfl (by exact obOkN) (olk rfl (by exact obOkN) (olk rfl (by exact bC) oln))) noS) ?_
    rintro n_ s ⟨k, hk, hall, rfl⟩
    all_goals refine aS (aS (aR ?_))
    all_goals refine oC (oM rfl (Conv.of rfl) rfl) ?_
    all_goals refine oC (oF f90_3_NodS rfl rfl) ?_
    all_goals refine oC (op_ldl ty24_OListVote rfl rfl rfl) ?_
    all_goals refine oC (oE sl24 rfl rfl) ?_
    all_goals refine oC (oLt rfl rfl rfl) ?_
    all_goals refine oN ?_
    refine aC rfl (fun h2 => ?_) (fun h2 => ?_)
    · have hlt : k < n.seen.length := by simpa [sN] using h2
      have hx : n.seen[k]? = some n.seen[k] := List.getElem?_eq_getElem hlt
      have hx' : (sN n).seen.l[(k : Int).toNat]? = some n.seen[k] := hx
      have huo := hn.ok _ (List.getElem_mem hlt)
      have hup := voteOk_pos huo
      have hstep := tryS_drop n (tipOfS n.seen).length hx
      refine aW ?_
      refine aS (aB ?_)
      all_goals refine aS (dS ?_)
      all_goals refine dC (op_ldd ty90_NodS rfl rfl rfl) ?_
      all_goals refine dC (oF f90_3_NodS rfl rfl) ?_
      all_goals refine dC (op_ldl ty24_OListVote rfl rfl rfl) ?_
      all_goals refine dC (oM rfl (Conv.of rfl) rfl) ?_
      all_goals refine dC (op_ix sl24 rfl rfl rfl (by omega) hx') ?_
      all_goals refine dC (oDR ty38 rfl rfl) ?_
      all_goals refine dC (oM rfl (Conv.of rfl) rfl) ?_
      all_goals refine dC (oL fb176 (.cons rfl (Conv.of rfl) (.cons rfl (Conv.of rfl) (.cons rfl (Conv.of rfl) (.nil _)))) (l12Fits_ct n n.seen[k] (tipOfS n.seen).length hup he) (aK rfl rfl (aK rfl rfl (aK rfl rfl aK0))) rfl rfl) ?_
      all_goals refine dr_nil mixed rfl ?_
      refine aC rfl (fun h3 => ?_) (fun h3 => ?_)
      · refine aS ?_
        refine awp_park (s := 37) (o := 0) (tb := 1) rfl rfl rfl (fun hv => ?_)
        refine dg_start 8 ?_
        all_goals refine dg_cons (oD ty90_NodH rfl rfl rfl) ?_
        all_goals refine dg_cons (oF f90_3_NodH rfl rfl) ?_
        all_goals refine dg_cons (oD ty24_HListVote rfl rfl rfl) ?_
        all_goals refine dg_cons (oM rfl (Conv.of rfl) rfl) ?_
        all_goals refine dg_cons (op_ix sl24 rfl rfl rfl (by omega) hx') ?_
        all_goals refine dg_cons (oFR f38_1 rfl rfl) ?_
        all_goals refine dg_cons (oDR ty27 rfl rfl) ?_
        refine dg_cons (op_callP (r := 37) rfl fb162 rfl rfl (.cons rfl (Conv.of rfl) (.nil _)) (l12Vote_ct n _ hn (voteOk_len huo)) (aK rfl rfl aK0) rfl rfl) ?_
        refine dg_bar (fun hv' => _) mixed rfl rfl (parkT (t := 45) (r := 37) rfl rfl rfl) (fun hv' => ?_)
        all_goals refine dg_cons (op_ext rfl rfl rfl) ?_
        all_goals refine dg_cons (op_ext rfl rfl rfl) ?_
        all_goals refine dg_cons (op_ext rfl rfl rfl) ?_
        refine dg_cons (op_stP (s := 46) (r := 37) rfl ty90_NodS rfl rfl rfl rfl) ?_
        all_goals refine dg_cons (op_st ty38 rfl rfl (Conv.of rfl) rfl) ?_
        all_goals refine dg_cons (oA rfl (Conv.of rfl) rfl) ?_
        refine dg_nil rfl ?_
        refine aT ?_
        repeat first | refine rS ?_ | refine rB ?_
        refine ⟨_, _, rNM (ol := []) (.cell ty90_NodS rfl rfl (.keep (.rc ty38 rfl rfl) (.keep (.v rfl (Conv.of rfl)) (.nil _)))) rfl (fun o ho => absurd (show o ∈ ([] : List Nat) from ho) (by simp)) oln noS, ?_, rfl⟩
        rw [← hall, hstep, if_pos h3]; rfl
      · refine aW ?_
        all_goals refine aR ?_
        all_goals refine oC (oM rfl (Conv.of rfl) rfl) ?_
        all_goals refine oC (oP rfl rfl rfl (by omega)) ?_
        all_goals refine oC (oA rfl (Conv.of rfl) rfl) ?_
        all_goals refine oN ?_
        repeat first | refine nS ?_ | refine nB ?_
        exact ⟨n_ - 1, _, by omega, ⟨k + 1, by omega, by rw [← hall, hstep, if_neg (by rw [h3]; decide)], rfl⟩, Le.mk rfl (tlb rfl rfl rfl (tlb rfl rfl rfl (tlb rfl rfl rfl (tle rfl (rfl) rfl (tle rfl (rfl) rfl tln))))) (olk rfl (by exact obOkN) (olk rfl (by exact obOkN) (olk rfl (by exact bC) oln))) noS⟩
    · refine aE ?_
      repeat refine ex_seq ?_
      refine eB ?_
      have hk : n.seen.length ≤ k := by simpa [sN] using h2
      all_goals refine aS (aR ?_)
      all_goals refine oC (op_ldm ty90_NodS rfl rfl rfl) ?_
      all_goals refine oC (op_build (.nil _) z38 rfl pl38 rfl) ?_
      all_goals refine oC (op_stm ty90_NodS rfl rfl rfl) ?_
      all_goals refine oC (op_st ty38 rfl rfl (Conv.of rfl) rfl) ?_
      all_goals refine oC (oA rfl (Conv.of rfl) rfl) ?_
      all_goals refine oN ?_
      refine aT ?_
      repeat first | refine rS ?_ | refine rB ?_
      refine ⟨_, _, rNM (ol := []) (.cell ty90_NodS rfl rfl (.keep (.rc ty38 rfl rfl) (.keep (.v rfl (Conv.of rfl)) (.nil _)))) rfl (fun o ho => absurd (show o ∈ ([] : List Nat) from ho) (by simp)) oln noS, ?_, rfl⟩
      rw [← hall, drop_end hk]; rfl
theorem l12Hear_ct (n : Nod) (v : Vote) (hn : Gd n.seen) (he : 0 ≤ n.epoch ∧ n.epoch ≤ 30) (hv : v.chain.length ≤ 1000000) : CtP Tryz.prog 153 [.v (sN n), .v v] (res3S (hearS n v)) := by
  refine Ct.intro Tryz.func153 rfl rfl ?_
  all_goals refine aS (aR ?_)
  all_goals refine oC (op_boxm (o := 0) ty90_NodS rfl rfl rfl rfl) ?_
  all_goals refine oC (op_box (o := 1) ty38 rfl (Conv.of rfl) rfl rfl) ?_
  all_goals refine oC (oX (o := 2) z90_NodS rfl rfl) ?_
  all_goals refine oC (oX (o := 3) z38 rfl rfl) ?_
  all_goals refine oC (oA rfl (Conv.of rfl) rfl) ?_
  all_goals refine oN ?_
  refine aS (aST (s' := mkSt 41 [(2, .box 0 (IsLens.whole NodS)), (3, .box 1 (IsLens.whole Vote)), (4, .box 2 (IsLens.whole NodS)), (5, .box 3 (IsLens.whole Vote)), (6, .v false), (24, .v (!(voteOk v && !decide (v.by_ = n.id) && decide (n.seen.length < 80))))] [(0, .cell (sN n)), (1, .cell v), (2, .cell NodS.zero), (3, .cell Vote.zero)]) ?_ ?_)
  · all_goals refine aR ?_
    all_goals refine oC (oD ty38 rfl rfl rfl) ?_
    all_goals refine oC (oL fb108 (.cons rfl (Conv.of rfl) (.nil _)) (l3Vote_ct _) (aK rfl rfl aK0) rfl rfl) ?_
    all_goals refine oC (op_not rfl rfl) ?_
    all_goals refine oC (oM rfl (Conv.of rfl) rfl) ?_
    all_goals refine g_split (t := 12) rfl (fun h => ?_) (fun h => ?_)
    all_goals first | refine oC (gF rfl rfl rfl rfl rfl) ?_ | refine oC (gN rfl rfl rfl (oF f38_0 rfl rfl)) ?_
    all_goals first | refine oC (gF rfl rfl rfl rfl rfl) ?_ | refine oC (gN rfl rfl rfl (oD ty3 rfl rfl rfl)) ?_
    all_goals first | refine oC (gF rfl rfl rfl rfl rfl) ?_ | refine oC (gN rfl rfl rfl (oF f90_0_NodS rfl rfl)) ?_
    all_goals first | refine oC (gF rfl rfl rfl rfl rfl) ?_ | refine oC (gN rfl rfl rfl (oD ty3 rfl rfl rfl)) ?_
    all_goals first | refine oC (gF rfl rfl rfl rfl rfl) ?_ | refine oC (gN rfl rfl rfl (op_eql rfl rfl rfl)) ?_
    all_goals refine oC (oQ rfl rfl rfl rfl) ?_
    all_goals refine oC (oM rfl (Conv.of rfl) rfl) ?_
    all_goals first | refine g_lit (t := 19) (b := true) rfl ?_ | refine g_split (t := 19) rfl (fun h => ?_) (fun h => ?_)
    all_goals first | refine oC (gF rfl rfl rfl rfl rfl) ?_ | refine oC (gN rfl rfl rfl (oF f90_3_NodS rfl rfl)) ?_
    all_goals first | refine oC (gF rfl rfl rfl rfl rfl) ?_ | refine oC (gN rfl rfl rfl (op_ldl ty24_OListVote rfl rfl rfl)) ?_
    all_goals first | refine oC (gF rfl rfl rfl rfl rfl) ?_ | refine oC (gN rfl rfl rfl (oE sl24 rfl rfl)) ?_
    all_goals first | refine oC (gF rfl rfl rfl rfl rfl) ?_ | refine oC (gN rfl rfl rfl (op_geq rfl rfl rfl)) ?_
    all_goals refine oC (oQ rfl rfl rfl rfl) ?_
    all_goals refine oN ?_
    all_goals exact Le.mk rfl (tlb rfl rfl rfl (tlb rfl rfl rfl (tlb rfl rfl rfl (tlb rfl rfl rfl (tle rfl (rfl) rfl (tle rfl (by (simp_all [sN]; try (rw [Bool.eq_iff_iff]; simp; try omega); try (exact ⟨fun hh => by have := of_decide_eq_true hh; omega, fun hh => decide_eq_true (by omega)⟩))) rfl tln)))))) (olk rfl (by exact obOkN) (olk rfl (by exact bC) (olk rfl (by exact obOkN) (olk rfl (by exact bC) oln)))) noS
  refine aC rfl (fun h => ?_) (fun h => ?_)
  · all_goals refine aS (aR ?_)
    all_goals refine oC (op_ldm ty90_NodS rfl rfl rfl) ?_
    all_goals refine oC (op_build (.nil _) z38 rfl pl38 rfl) ?_
    all_goals refine oC (op_stm ty90_NodS rfl rfl rfl) ?_
    all_goals refine oC (op_st ty38 rfl rfl (Conv.of rfl) rfl) ?_
    all_goals refine oC (oA rfl (Conv.of rfl) rfl) ?_
    all_goals refine oN ?_
    refine aT ?_
    repeat first | refine rS ?_ | refine rB ?_
    refine ⟨_, _, rNM (ol := []) (.cell ty90_NodS rfl rfl (.keep (.rc ty38 rfl rfl) (.keep (.v rfl (Conv.of rfl)) (.nil _)))) rfl (fun o ho => absurd (show o ∈ ([] : List Nat) from ho) (by simp)) oln noS, ?_, rfl⟩
    rw [hearS, not_t h]; rfl
  · have h0 := not_f h
    have h0' := h0
    simp only [Bool.and_eq_true] at h0'
    have hvo : voteOk v = true := h0'.1.1
    have hlen : n.seen.length < 80 := by simpa using h0'.2
    have hgd := seeF_gd hn hvo hlen
    have hep : (seeF n v).epoch = n.epoch := by unfold seeF; split <;> rfl
    refine aW ?_
    all_goals refine aS (aR ?_)
    all_goals refine oC (oF f90_3_NodS rfl rfl) ?_
    all_goals refine oC (op_ldm ty24_OListVote rfl rfl rfl) ?_
    all_goals refine oC (oD ty38 rfl rfl rfl) ?_
    all_goals refine oC (oLM (s := 29) (ol := []) (ol' := []) (pre := []) fb146 (.nil _) rfl (.cons rfl (Conv.of rfl) (.nil _)) (l3Add_ct n.seen v hn.l' hv) ols0 k0 k0 rfl argO0 (argOk' rfl rfl argO0) (fun o ho => absurd (show o ∈ ([] : List Nat) from ho) (by simp)) (fun o ho => absurd (show o ∈ ([] : List Nat) from ho) (by simp)) rfl) ?_
    all_goals refine oC (op_mvo rfl rfl rfl rfl) ?_
    all_goals refine oC (op_extm rfl rfl rfl rfl) ?_
    all_goals refine oC (op_ext rfl rfl rfl) ?_
    all_goals refine oC (op_asl rfl rfl rfl rfl) ?_
    all_goals refine oC (oA rfl (Conv.of rfl) rfl) ?_
    all_goals refine oN ?_
    refine aST (s' := mkSt 41 [(2, .box 0 (IsLens.whole NodS)), (4, .box 2 (IsLens.whole NodS)), (5, .box 3 (IsLens.whole Vote))] [(0, .cell (sN (seeF n v))), (2, .cell NodS.zero), (3, .cell Vote.zero)]) ?_ ?_
    · all_goals refine aR ?_
      all_goals refine oC (op_mvl rfl rfl rfl rfl) ?_
      all_goals refine oC (oF f90_3_NodS rfl rfl) ?_
      all_goals refine oC (op_stm ty24_OListVote rfl rfl rfl) ?_
      all_goals refine oN ?_
      all_goals exact Le.mk rfl (tlb rfl rfl rfl (tlb rfl rfl rfl (tlb rfl rfl rfl tln))) (olk (by (by_cases hm : v ∈ n.seen <;> simp [seeF, sN, hm] <;> rfl)) (by exact obOkN) (olk rfl (by exact obOkN) (olk rfl (by exact bC) oln))) noS
    all_goals refine aS (aR ?_)
    all_goals refine oC (op_ldm ty90_NodS rfl rfl rfl) ?_
    all_goals refine oC (oLM (s := 36) (ol := []) (ol' := []) (pre := []) fb170 (.nil _) rfl (.nil _) (l12Try_ct (seeF n v) hgd (by rw [hep]; exact he)) ols0 k0 k0 rfl argO0 argO0 (fun o ho => absurd (show o ∈ ([] : List Nat) from ho) (by simp)) (fun o ho => absurd (show o ∈ ([] : List Nat) from ho) (by simp)) rfl) ?_
    all_goals refine oC (op_extm rfl rfl rfl rfl) ?_
    all_goals refine oC (op_ext rfl rfl rfl) ?_
    all_goals refine oC (op_ext rfl rfl rfl) ?_
    all_goals refine oC (op_stm ty90_NodS rfl rfl rfl) ?_
    all_goals refine oC (op_st ty38 rfl rfl (Conv.of rfl) rfl) ?_
    all_goals refine oC (oA rfl (Conv.of rfl) rfl) ?_
    all_goals refine oN ?_
    refine aT ?_
    repeat first | refine rS ?_ | refine rB ?_
    refine ⟨_, _, rNM (ol := []) (.cell ty90_NodS rfl rfl (.keep (.rc ty38 rfl rfl) (.keep (.v rfl (Conv.of rfl)) (.nil _)))) rfl (fun o ho => absurd (show o ∈ ([] : List Nat) from ho) (by simp)) oln noS, ?_, rfl⟩
    rw [hearS, h0, if_pos rfl]; rfl
end Go.Proofs.YtmhmeppocbcmeaaGreat

/- The reference: a node of a world proposes, or hears. -/
set_option linter.unusedVariables false
set_option linter.unusedSimpArgs false
namespace Go.Proofs.YtmhmeppocbcmeaaGreat
open Go Go.Wt
theorem l12Propose_w (n : Nod) (p : Pay) (h : nodeOk n = true) : CtP Tryz.prog 134 [.v (sN n), .v p] (res3S (proposeF n p)) := by
  obtain ⟨⟨h1, h2, h3, h4, h5⟩, h6⟩ := nodeOk_iff.1 h
  rw [← proposeS_eq p h5 h2]
  exact l12Propose_ct n p ⟨by omega, votesOk_mem h5⟩ h2
theorem l12Hear_w (n : Nod) (v : Vote) (h : nodeOk n = true) (hv : v.chain.length ≤ 1000000) : CtP Tryz.prog 153 [.v (sN n), .v v] (res3S (hearF n v)) := by
  obtain ⟨⟨h1, h2, h3, h4, h5⟩, h6⟩ := nodeOk_iff.1 h
  rw [← hearS_eq h5 h2]
  exact l12Hear_ct n v ⟨by omega, votesOk_mem h5⟩ h2 hv
abbrev so (w : Wrld) : List (Nat × Wt.Obj) := [(1, .arr (w.nodes.map sN))]
theorem sW_put (w : Wrld) (k : Nat) (x : Nod × Vote × Bool) : sW (if x.2.2 then sendF w x.2.1 else w) = sW (putF w k x) := by
  unfold putF
  cases x.2.2 with
  | false => rfl
  | true =>
    show sW (sendF w x.2.1) = sW (sendF _ x.2.1)
    unfold sendF
    simp only
    split <;> rfl
theorem put_nodes (w : Wrld) (k : Nat) (x : Nod × Vote × Bool) : (putF w k x).nodes = w.nodes.set k x.1 := by
  unfold putF
  split
  · unfold sendF; split <;> rfl
  · rfl
theorem set_sN (ns : List Nod) (k : Nat) (n : Nod) (y : NodS) : ((ns.map sN).set k y).set k (sN n) = (ns.set k n).map sN := by
  rw [List.set_set, List.map_set]
set_option maxHeartbeats 4000000 in
theorem l21Propose_ct (w : Wrld) (id : Int) (p : Pay) (hw : FineX w) : CtO Tryz.prog 79 [.v (sW w), .v id, .v p] (so w) (.v (sW (wproposeF w id p))) (so (wproposeF w id p)) := by
  have h4 := hw.four
  refine Ct.intro Tryz.func79 rfl rfl ?_
  all_goals refine aS (aR ?_)
  all_goals refine oC (op_boxm (o := 5) ty26_WrldS rfl rfl rfl rfl) ?_
  all_goals refine oC (op_box (o := 6) ty75 rfl (Conv.of rfl) rfl rfl) ?_
  all_goals refine oC (oX (o := 7) z26_WrldS rfl rfl) ?_
  all_goals refine oN ?_
  refine aS (aST (s' := mkSt 52 [(1, .v id), (3, .box 5 (IsLens.whole WrldS)), (5, .box 6 (IsLens.whole Pay)), (6, .box 7 (IsLens.whole WrldS)), (28, .v (!(within id 1 4 && !decide (id = w.bad) && payOk p && decide (w.log.length < 80))))] [(1, .arr (w.nodes.map sN)), (5, .cell (sW w)), (6, .cell p), (7, .cell WrldS.zero)]) ?_ ?_)
  · all_goals refine aR ?_
    all_goals refine oC (oM rfl (Conv.of rfl) rfl) ?_
    all_goals refine oC (oL fb50 (.cons rfl (Conv.of rfl) (.cons rfl (Conv.of rfl) (.cons rfl (Conv.of rfl) (.nil _)))) (l6In_ct _ _ _) (aK rfl rfl (aK rfl rfl (aK rfl rfl aK0))) rfl rfl) ?_
    all_goals refine oC (op_not rfl rfl) ?_
    all_goals refine oC (oM rfl (Conv.of rfl) rfl) ?_
    all_goals refine g_split (t := 13) rfl (fun h => ?_) (fun h => ?_)
    all_goals first | refine oC (gF rfl rfl rfl rfl rfl) ?_ | refine oC (gN rfl rfl rfl (oM rfl (Conv.of rfl) rfl)) ?_
    all_goals first | refine oC (gF rfl rfl rfl rfl rfl) ?_ | refine oC (gN rfl rfl rfl (oF f26_3_WrldS rfl rfl)) ?_
    all_goals first | refine oC (gF rfl rfl rfl rfl rfl) ?_ | refine oC (gN rfl rfl rfl (oD ty3 rfl rfl rfl)) ?_
    all_goals first | refine oC (gF rfl rfl rfl rfl rfl) ?_ | refine oC (gN rfl rfl rfl (op_eql rfl rfl rfl)) ?_
    all_goals refine oC (oQ rfl rfl rfl rfl) ?_
    all_goals refine oC (oM rfl (Conv.of rfl) rfl) ?_
    all_goals first | refine g_lit (t := 19) (b := true) rfl ?_ | refine g_split (t := 19) rfl (fun h => ?_) (fun h => ?_)
    all_goals first | refine oC (gF rfl rfl rfl rfl rfl) ?_ | refine oC (gN rfl rfl rfl (oD ty75 rfl rfl rfl)) ?_
    all_goals first | refine oC (gF rfl rfl rfl rfl rfl) ?_ | refine oC (gN rfl rfl rfl (oL fb132 (.cons rfl (Conv.of rfl) (.nil _)) (sPayOk_ct _) (aK rfl rfl aK0) rfl rfl)) ?_
    all_goals first | refine oC (gF rfl rfl rfl rfl rfl) ?_ | refine oC (gN rfl rfl rfl (op_not rfl rfl)) ?_
    all_goals refine oC (oQ rfl rfl rfl rfl) ?_
    all_goals refine oC (oM rfl (Conv.of rfl) rfl) ?_
    all_goals first | refine g_lit (t := 24) (b := true) rfl ?_ | refine g_split (t := 24) rfl (fun h => ?_) (fun h => ?_)
    all_goals first | refine oC (gF rfl rfl rfl rfl rfl) ?_ | refine oC (gN rfl rfl rfl (op_ldd ty26_WrldS rfl rfl rfl)) ?_
    all_goals first | refine oC (gF rfl rfl rfl rfl rfl) ?_ | refine oC (gN rfl rfl rfl (oLO fb133 (.cons rfl (Conv.of rfl) (.nil _)) (l21Room_ct w _) (olsk rfl ols0) (kK (by exact bN) k0) (kK (by exact bN) k0) rfl (argOb rfl rfl rfl argO0) (fun o ho => by cases ho) rfl)) ?_
    all_goals first | refine oC (gF rfl rfl rfl rfl rfl) ?_ | refine oC (gN rfl rfl rfl (op_not rfl rfl)) ?_
    all_goals refine oC (oQ rfl rfl rfl rfl) ?_
    all_goals refine oN ?_
    all_goals exact Le.mk rfl (tle rfl (rfl) rfl (tlb rfl rfl rfl (tlb rfl rfl rfl (tlb rfl rfl rfl (tle rfl (by (simp_all [sW]; try (rw [Bool.eq_iff_iff]; simp; try omega))) rfl tln))))) (olk rfl (by exact bN) (olk rfl (by exact obOkS rfl) (olk rfl (by exact bC) (olk rfl (by exact obOkS0) oln)))) (hU (a := so w) rfl)
  refine aC rfl (fun h => ?_) (fun h => ?_)
  · all_goals refine aS (aR ?_)
    all_goals refine oC (op_ldm ty26_WrldS rfl rfl rfl) ?_
    all_goals refine oC (op_stm ty26_WrldS rfl rfl rfl) ?_
    all_goals refine oN ?_
    refine aT ?_
    repeat first | refine rS ?_ | refine rB ?_
    refine ⟨_, _, res1C (ol := so w) ty26_WrldS rfl rfl (inOne rfl) (olk rfl bN oln) (hU rfl), ?_, ?_⟩
    · have h' := not_t h
      have e : wproposeF w id p = w := by
        unfold wproposeF honestB
        rw [if_neg]
        intro hh
        simp only [Bool.and_eq_true] at hh
        simp [hh.1.1.1, hh.1.1.2, hh.1.2, hh.2] at h'
      rw [e]
    · have h' := not_t h
      have e : wproposeF w id p = w := by
        unfold wproposeF honestB
        rw [if_neg]
        intro hh
        simp only [Bool.and_eq_true] at hh
        simp [hh.1.1.1, hh.1.1.2, hh.1.2, hh.2] at h'
      rw [e]
  · have h' := not_f h
    simp only [Bool.and_eq_true] at h'
    have hid : 1 ≤ id ∧ id ≤ 4 := by simpa [within] using h'.1.1.1
    have hlt : (id - 1).toNat < w.nodes.length := by omega
    have hx : w.nodes[(id - 1).toNat]? = some w.nodes[(id - 1).toNat] := List.getElem?_eq_getElem hlt
    have hno := hw.nodes _ (List.getElem_mem hlt)
    generalize hnn : w.nodes[(id - 1).toNat] = n at hx hno
    have hx' : (w.nodes.map sN)[(id - 1).toNat]? = some (sN n) := by rw [List.getElem?_map, hx]; rfl
    have hy : ∀ y : NodS, ((w.nodes.map sN).set (id - 1).toNat y)[(id - 1).toNat]? = some y := fun y => by
      rw [List.getElem?_set_self (by rw [List.length_map]; exact hlt)]
    have hln : ((w.nodes.map sN).length : Int) = 4 := by simp [h4]
    have hgd := hw.fine.seen n (List.mem_of_getElem? hx)
    have e : wproposeF w id p = putF w (id - 1).toNat (proposeF n p) := by
      unfold wproposeF honestB
      rw [if_pos (by simp only [h'.1.1.1, h'.1.1.2, h'.1.2, h'.2, Bool.and_self]), hx]
    rw [e]
    refine aW ?_
    all_goals refine aS (dS ?_)
    all_goals refine dC (oF f26_1_WrldS rfl rfl) ?_
    all_goals refine dC (oD ty23_NRef rfl rfl rfl) ?_
    all_goals refine dC (oM rfl (Conv.of rfl) rfl) ?_
    all_goals refine dC (op_sub rfl rfl rfl (by omega)) ?_
    all_goals refine dC (op_ixA sl23_NodS rfl rfl rfl rfl ⟨by omega, by omega⟩) ?_
    all_goals refine dC (op_ldme ty90_NodS rfl rfl hx' rfl) ?_
    all_goals refine dC (oD ty75 rfl rfl rfl) ?_
    all_goals refine dC (OpOk.emit (d := 38) (o' := 9) 28 (oLM (s := 36) (ol := []) (ol' := []) (pre := []) fb134 (.nil _) rfl (.cons rfl (Conv.of rfl) (.nil _)) (l12Propose_w n p hno) ols0 k0 k0 rfl argO0 (argOk' rfl rfl argO0) (fun o ho => absurd (show o ∈ ([] : List Nat) from ho) (by simp)) (fun o ho => absurd (show o ∈ ([] : List Nat) from ho) (by simp)) rfl) rfl rfl rfl rfl rfl) ?_
    all_goals refine dC (oM rfl (Conv.of rfl) rfl) ?_
    all_goals refine dC (op_ext rfl rfl rfl) ?_
    all_goals refine dC (op_ext rfl rfl rfl) ?_
    all_goals refine dC (op_ext rfl rfl rfl) ?_
    all_goals refine dC (oX (o := 10) z90_NodR rfl rfl) ?_
    all_goals refine dC (oX (o := 11) z38 rfl rfl) ?_
    all_goals refine dC (op_st ty90_NodR rfl rfl (Conv.of rfl) rfl) ?_
    all_goals refine dC (op_st ty38 rfl rfl (Conv.of rfl) rfl) ?_
    all_goals refine dC (oA rfl (Conv.of rfl) rfl) ?_
    all_goals refine dr_nil mixed rfl ?_
    all_goals refine aS (aR ?_)
    all_goals refine oC (oF f26_1_WrldS rfl rfl) ?_
    all_goals refine oC (oD ty23_NRef rfl rfl rfl) ?_
    all_goals refine oC (oM rfl (Conv.of rfl) rfl) ?_
    all_goals refine oC (op_sub rfl rfl rfl (by omega)) ?_
    all_goals refine oC (oD ty90_NodR rfl rfl rfl) ?_
    all_goals refine oC (op_ixA sl23_NodS rfl rfl rfl rfl ⟨by omega, by simp; omega⟩) ?_
    all_goals refine oC (op_steR 28 rfl ty90_NodS rfl rfl rfl rfl (hy _)) ?_
    all_goals refine oN ?_
    all_goals refine aS (aR ?_)
    all_goals refine oC (op_ldm ty26_WrldS rfl rfl rfl) ?_
    all_goals refine oC (oD ty38 rfl rfl rfl) ?_
    all_goals refine oC (oM rfl (Conv.of rfl) rfl) ?_
    all_goals refine oC (oLM (s := 48) (pre := []) fb118 (.nil _) rfl (.cons rfl (Conv.of rfl) (.cons rfl (Conv.of rfl) (.nil _))) (l21Send_ct w _ _ _ hw.fine.log (proposeF_len p hgd)) (olsk rfl ols0) (kK (by exact bN) k0) (kK (by exact bN) k0) rfl argO0 (argOk' rfl rfl (argOk' rfl rfl argO0)) (inOne rfl) (inOne rfl) rfl) ?_
    all_goals refine oC (op_stm ty26_WrldS rfl rfl rfl) ?_
    all_goals refine oN ?_
    refine aT ?_
    repeat first | refine rS ?_ | refine rB ?_
    refine ⟨_, _, res1C (ol := [(1, .arr _)]) ty26_WrldS rfl rfl (inOne rfl) (olk rfl bN oln) (hU rfl), ?_, ?_⟩
    · rw [← sW_put]; rfl
    · exact congrArg (fun z => obs [(1, Wt.Obj.arr z)]) (by rw [put_nodes]; exact set_sN _ _ _ _)
set_option maxHeartbeats 4000000 in
theorem l21Bring_ct (w : Wrld) (at_ id : Int) (hw : FineX w) : CtO Tryz.prog 117 [.v (sW w), .v at_, .v id] (so w) (.v (sW (wbringF w at_ id))) (so (wbringF w at_ id)) := by
  have h4 := hw.four
  have hlg := hw.fine.log.len
  have hidle : ∀ h' : (within at_ 0 ((w.log.length : Int) - 1) && within id 1 4 && !decide (id = w.bad) && decide (w.log.length < 80)) = false, wbringF w at_ id = w := fun h' => by
    unfold wbringF honestB
    rw [if_neg]
    intro hh
    simp only [Bool.and_eq_true] at hh
    simp [hh.1.1.1, hh.1.1.2, hh.1.2, hh.2] at h'
  refine Ct.intro Tryz.func117 rfl rfl ?_
  all_goals refine aS (aR ?_)
  all_goals refine oC (op_boxm (o := 5) ty26_WrldS rfl rfl rfl rfl) ?_
  all_goals refine oC (oX (o := 6) z26_WrldS rfl rfl) ?_
  all_goals refine oN ?_
  refine aS (aST (s' := mkSt 60 [(1, .v at_), (2, .v id), (3, .box 5 (IsLens.whole WrldS)), (6, .box 6 (IsLens.whole WrldS)), (32, .v (!(within at_ 0 ((w.log.length : Int) - 1) && within id 1 4 && !decide (id = w.bad) && decide (w.log.length < 80))))] [(1, .arr (w.nodes.map sN)), (5, .cell (sW w)), (6, .cell WrldS.zero)]) ?_ ?_)
  · all_goals refine aR ?_
    all_goals refine oC (oM rfl (Conv.of rfl) rfl) ?_
    all_goals refine oC (oF f26_2_WrldS rfl rfl) ?_
    all_goals refine oC (op_ldl ty24_OListVote rfl rfl rfl) ?_
    all_goals refine oC (oE sl24 rfl rfl) ?_
    all_goals refine oC (op_sub rfl rfl rfl (by (simp only [sW]; omega))) ?_
    all_goals refine oC (oL fb50 (.cons rfl (Conv.of rfl) (.cons rfl (Conv.of rfl) (.cons rfl (Conv.of rfl) (.nil _)))) (l6In_ct _ _ _) (aK rfl rfl (aK rfl rfl (aK rfl rfl aK0))) rfl rfl) ?_
    all_goals refine oC (op_not rfl rfl) ?_
    all_goals refine oC (oM rfl (Conv.of rfl) rfl) ?_
    all_goals refine g_split (t := 17) rfl (fun h => ?_) (fun h => ?_)
    all_goals first | refine oC (gF rfl rfl rfl rfl rfl) ?_ | refine oC (gN rfl rfl rfl (oM rfl (Conv.of rfl) rfl)) ?_
    all_goals first | refine oC (gF rfl rfl rfl rfl rfl) ?_ | refine oC (gN rfl rfl rfl (oL fb50 (.cons rfl (Conv.of rfl) (.cons rfl (Conv.of rfl) (.cons rfl (Conv.of rfl) (.nil _)))) (l6In_ct _ _ _) (aK rfl rfl (aK rfl rfl (aK rfl rfl aK0))) rfl rfl)) ?_
    all_goals first | refine oC (gF rfl rfl rfl rfl rfl) ?_ | refine oC (gN rfl rfl rfl (op_not rfl rfl)) ?_
    all_goals refine oC (oQ rfl rfl rfl rfl) ?_
    all_goals refine oC (oM rfl (Conv.of rfl) rfl) ?_
    all_goals first | refine g_lit (t := 22) (b := true) rfl ?_ | refine g_split (t := 22) rfl (fun h => ?_) (fun h => ?_)
    all_goals first | refine oC (gF rfl rfl rfl rfl rfl) ?_ | refine oC (gN rfl rfl rfl (oM rfl (Conv.of rfl) rfl)) ?_
    all_goals first | refine oC (gF rfl rfl rfl rfl rfl) ?_ | refine oC (gN rfl rfl rfl (oF f26_3_WrldS rfl rfl)) ?_
    all_goals first | refine oC (gF rfl rfl rfl rfl rfl) ?_ | refine oC (gN rfl rfl rfl (oD ty3 rfl rfl rfl)) ?_
    all_goals first | refine oC (gF rfl rfl rfl rfl rfl) ?_ | refine oC (gN rfl rfl rfl (op_eql rfl rfl rfl)) ?_
    all_goals refine oC (oQ rfl rfl rfl rfl) ?_
    all_goals refine oC (oM rfl (Conv.of rfl) rfl) ?_
    all_goals first | refine g_lit (t := 28) (b := true) rfl ?_ | refine g_split (t := 28) rfl (fun h => ?_) (fun h => ?_)
    all_goals first | refine oC (gF rfl rfl rfl rfl rfl) ?_ | refine oC (gN rfl rfl rfl (op_ldd ty26_WrldS rfl rfl rfl)) ?_
    all_goals first | refine oC (gF rfl rfl rfl rfl rfl) ?_ | refine oC (gN rfl rfl rfl (oLO fb133 (.cons rfl (Conv.of rfl) (.nil _)) (l21Room_ct w _) (olsk rfl ols0) (kK (by exact bN) k0) (kK (by exact bN) k0) rfl (argOb rfl rfl rfl argO0) (fun o ho => by cases ho) rfl)) ?_
    all_goals first | refine oC (gF rfl rfl rfl rfl rfl) ?_ | refine oC (gN rfl rfl rfl (op_not rfl rfl)) ?_
    all_goals refine oC (oQ rfl rfl rfl rfl) ?_
    all_goals refine oN ?_
    all_goals exact Le.mk rfl (tle rfl (rfl) rfl (tle rfl (rfl) rfl (tlb rfl rfl rfl (tlb rfl rfl rfl (tle rfl (by (simp_all [sW]; try (rw [Bool.eq_iff_iff]; simp; try omega))) rfl tln))))) (olk rfl (by exact bN) (olk rfl (by exact obOkS rfl) (olk rfl (by exact obOkS0) oln))) (hU (a := so w) rfl)
  refine aC rfl (fun h => ?_) (fun h => ?_)
  · all_goals refine aS (aR ?_)
    all_goals refine oC (op_ldm ty26_WrldS rfl rfl rfl) ?_
    all_goals refine oC (op_stm ty26_WrldS rfl rfl rfl) ?_
    all_goals refine oN ?_
    refine aT ?_
    repeat first | refine rS ?_ | refine rB ?_
    refine ⟨_, _, res1C (ol := so w) ty26_WrldS rfl rfl (inOne rfl) (olk rfl bN oln) (hU rfl), ?_, ?_⟩
    · rw [hidle (not_t h)]
    · rw [hidle (not_t h)]
  · have h' := not_f h
    simp only [Bool.and_eq_true] at h'
    have hid : 1 ≤ id ∧ id ≤ 4 := by simpa [within] using h'.1.1.2
    have hat : 0 ≤ at_ ∧ at_ ≤ (w.log.length : Int) - 1 := by simpa [within] using h'.1.1.1
    have hlt : (id - 1).toNat < w.nodes.length := by omega
    have hx : w.nodes[(id - 1).toNat]? = some w.nodes[(id - 1).toNat] := List.getElem?_eq_getElem hlt
    have hltv : at_.toNat < w.log.length := by omega
    have hv : w.log[at_.toNat]? = some w.log[at_.toNat] := List.getElem?_eq_getElem hltv
    have hno := hw.nodes _ (List.getElem_mem hlt)
    have hvl := hw.fine.log.v _ (List.getElem_mem hltv)
    generalize hnn : w.nodes[(id - 1).toNat] = n at hx hno
    generalize hvv : w.log[at_.toNat] = v at hv hvl
    have hv' : (sW w).log.l[at_.toNat]? = some v := hv
    have hx' : (w.nodes.map sN)[(id - 1).toNat]? = some (sN n) := by rw [List.getElem?_map, hx]; rfl
    have hy : ∀ y : NodS, ((w.nodes.map sN).set (id - 1).toNat y)[(id - 1).toNat]? = some y := fun y => by
      rw [List.getElem?_set_self (by rw [List.length_map]; exact hlt)]
    have hln : ((w.nodes.map sN).length : Int) = 4 := by simp [h4]
    have hgd := hw.fine.seen n (List.mem_of_getElem? hx)
    have e : wbringF w at_ id = putF w (id - 1).toNat (hearF n v) := by
      unfold wbringF honestB
      rw [if_pos (by simp only [h'.1.1.1, h'.1.1.2, h'.1.2, h'.2, Bool.and_self]), hx, hv]
    rw [e]
    refine aW ?_
    all_goals refine aS (dS ?_)
    all_goals refine dC (oF f26_1_WrldS rfl rfl) ?_
    all_goals refine dC (oD ty23_NRef rfl rfl rfl) ?_
    all_goals refine dC (oM rfl (Conv.of rfl) rfl) ?_
    all_goals refine dC (op_sub rfl rfl rfl (by omega)) ?_
    all_goals refine dC (op_ixA sl23_NodS rfl rfl rfl rfl ⟨by omega, by omega⟩) ?_
    all_goals refine dC (op_ldme ty90_NodS rfl rfl hx' rfl) ?_
    all_goals refine dC (oF f26_2_WrldS rfl rfl) ?_
    all_goals refine dC (op_ldl ty24_OListVote rfl rfl rfl) ?_
    all_goals refine dC (oM rfl (Conv.of rfl) rfl) ?_
    all_goals refine dC (op_ix sl24 rfl rfl rfl (by omega) hv') ?_
    all_goals refine dC (oDR ty38 rfl rfl) ?_
    all_goals refine dC (OpOk.emit (d := 46) (o' := 9) 32 (oLM (s := 40) (ol := []) (ol' := []) (pre := []) fb153 (.nil _) rfl (.cons rfl (Conv.of rfl) (.nil _)) (l12Hear_w n v hno hvl) ols0 k0 k0 rfl argO0 (argOk' rfl rfl argO0) (fun o ho => absurd (show o ∈ ([] : List Nat) from ho) (by simp)) (fun o ho => absurd (show o ∈ ([] : List Nat) from ho) (by simp)) rfl) rfl rfl rfl rfl rfl) ?_
    all_goals refine dC (oM rfl (Conv.of rfl) rfl) ?_
    all_goals refine dC (op_ext rfl rfl rfl) ?_
    all_goals refine dC (op_ext rfl rfl rfl) ?_
    all_goals refine dC (op_ext rfl rfl rfl) ?_
    all_goals refine dC (oX (o := 10) z90_NodR rfl rfl) ?_
    all_goals refine dC (oX (o := 11) z38 rfl rfl) ?_
    all_goals refine dC (op_st ty90_NodR rfl rfl (Conv.of rfl) rfl) ?_
    all_goals refine dC (op_st ty38 rfl rfl (Conv.of rfl) rfl) ?_
    all_goals refine dC (oA rfl (Conv.of rfl) rfl) ?_
    all_goals refine dr_nil mixed rfl ?_
    all_goals refine aS (aR ?_)
    all_goals refine oC (oF f26_1_WrldS rfl rfl) ?_
    all_goals refine oC (oD ty23_NRef rfl rfl rfl) ?_
    all_goals refine oC (oM rfl (Conv.of rfl) rfl) ?_
    all_goals refine oC (op_sub rfl rfl rfl (by omega)) ?_
    all_goals refine oC (oD ty90_NodR rfl rfl rfl) ?_
    all_goals refine oC (op_ixA sl23_NodS rfl rfl rfl rfl ⟨by omega, by simp; omega⟩) ?_
    all_goals refine oC (op_steR 32 rfl ty90_NodS rfl rfl rfl rfl (hy _)) ?_
    all_goals refine oN ?_
    all_goals refine aS (aR ?_)
    all_goals refine oC (op_ldm ty26_WrldS rfl rfl rfl) ?_
    all_goals refine oC (oD ty38 rfl rfl rfl) ?_
    all_goals refine oC (oM rfl (Conv.of rfl) rfl) ?_
    all_goals refine oC (oLM (s := 56) (pre := []) fb118 (.nil _) rfl (.cons rfl (Conv.of rfl) (.cons rfl (Conv.of rfl) (.nil _))) (l21Send_ct w _ _ _ hw.fine.log (hearF_len v hgd)) (olsk rfl ols0) (kK (by exact bN) k0) (kK (by exact bN) k0) rfl argO0 (argOk' rfl rfl (argOk' rfl rfl argO0)) (inOne rfl) (inOne rfl) rfl) ?_
    all_goals refine oC (op_stm ty26_WrldS rfl rfl rfl) ?_
    all_goals refine oN ?_
    refine aT ?_
    repeat first | refine rS ?_ | refine rB ?_
    refine ⟨_, _, res1C (ol := [(1, .arr _)]) ty26_WrldS rfl rfl (inOne rfl) (olk rfl bN oln) (hU rfl), ?_, ?_⟩
    · rw [← sW_put]; rfl
    · exact congrArg (fun z => obs [(1, Wt.Obj.arr z)]) (by rw [put_nodes]; exact set_sN _ _ _ _)
end Go.Proofs.YtmhmeppocbcmeaaGreat

/- The reference: what happens in a world; a play. -/
set_option linter.unusedVariables false
set_option linter.unusedSimpArgs false
namespace Go.Proofs.YtmhmeppocbcmeaaGreat
open Go Go.Wt
theorem send_nodes (w : Wrld) (v : Vote) : (sendF w v).nodes = w.nodes := by unfold sendF; split <;> rfl
set_option maxHeartbeats 1000000 in
theorem l21Tick_ct (w : Wrld) (hw : Fine w) : CtO Tryz.prog 78 [.v (sW w)] (so w) (.v (sW (tickF w))) (so (tickF w)) := by
  have hep := hw.ep
  have h4 := hw.four
  refine Ct.intro Tryz.func78 rfl rfl ?_
  refine aS (aR ?_)
  refine oC (op_boxm (o := 5) ty26_WrldS rfl rfl rfl rfl) ?_
  refine oC (oX (o := 6) z26_WrldS rfl rfl) ?_
  refine oN ?_
  refine aS (aR ?_)
  refine oC (oF f26_0_WrldS rfl rfl) ?_
  refine oC (oD ty3 rfl rfl rfl) ?_
  refine oC (oP rfl rfl rfl (by ((try simp only [sW]); omega))) ?_
  refine oC (op_min rfl rfl rfl) ?_
  refine oC (oF f26_0_WrldS rfl rfl) ?_
  refine oC (op_st ty3 rfl rfl (Conv.of rfl) rfl) ?_
  refine oN ?_
  refine aS (aS (aR ?_))
  refine oC (oA rfl (Conv.of rfl) rfl) ?_
  refine oN ?_
  refine aB ?_
  refine awp_loop' (fun n_ s => ∃ (k : Nat), ∃ (hn : n_ + k = 4), s = mkSt 29 [(1, .box 5 (IsLens.whole WrldS)), (2, .box 6 (IsLens.whole WrldS)), (3, .v (k : Int))] [(1, .arr (((w.nodes.take k).map (fun n => enterF n (min (w.epoch + 1) 30)) ++ w.nodes.drop k).map sN)), (5, .cell (sW (tickF w))), (6, .cell WrldS.zero)]) (4) ⟨0, by omega, rfl⟩ (Le.mk rfl (tlb rfl rfl rfl (tlb rfl rfl rfl (tle rfl (rfl) rfl tln))) (olk (by rfl) (by exact bN) (olk rfl (by exact obOkS rfl) (olk rfl (by exact obOkS0) oln))) (hU (a := so w) rfl)) ?_
  rintro n_ s ⟨k, hn, rfl⟩
  have hlen : (((w.nodes.take k).map (fun n => enterF n (min (w.epoch + 1) 30)) ++ w.nodes.drop k).map sN).length = 4 := by simp; omega
  refine aS (aS (aR ?_))
  refine oC (oM rfl (Conv.of rfl) rfl) ?_
  refine oC (oF f26_1_WrldS rfl rfl) ?_
  refine oC (oD ty23_NRef rfl rfl rfl) ?_
  refine oC (oEA sl23_NodS rfl rfl rfl) ?_
  refine oC (oLt rfl rfl rfl) ?_
  refine oN ?_
  refine aC rfl (fun h => ?_) (fun h => ?_)
  · have hlt : k < 4 := by rw [hlen] at h; simp at h; omega
    have hx : w.nodes[k]? = some w.nodes[k] := List.getElem?_eq_getElem (by omega)
    have hx' : (((w.nodes.take k).map (fun n => enterF n (min (w.epoch + 1) 30)) ++ w.nodes.drop k).map sN)[(k : Int).toNat]? = some (sN w.nodes[k]) := by
      rw [List.getElem?_map, List.getElem?_append_right (by simp; omega)]
      simp [Nat.min_eq_left (show k ≤ w.nodes.length by omega), hx]
    have hne := hw.nep _ (List.getElem_mem (show k < w.nodes.length by omega))
    have hy : ∀ y : NodS, ((((w.nodes.take k).map (fun n => enterF n (min (w.epoch + 1) 30)) ++ w.nodes.drop k).map sN).set (k : Int).toNat y)[(k : Int).toNat]? = some y := fun y => by
      rw [List.getElem?_set_self (by rw [hlen]; omega)]
    have hnext : ∀ y : NodS, ((((w.nodes.take k).map (fun n => enterF n (min (w.epoch + 1) 30)) ++ w.nodes.drop k).map sN).set (k : Int).toNat y).set (k : Int).toNat (sN (enterF w.nodes[k] (min (w.epoch + 1) 30))) = ((w.nodes.take (k + 1)).map (fun n => enterF n (min (w.epoch + 1) 30)) ++ w.nodes.drop (k + 1)).map sN := fun y => by
      rw [set_sN]
      exact congrArg _ (tick_step hx).symm
    refine aW ?_
    refine aS (aB ?_)
    refine dS ?_
    refine dC (oF f26_1_WrldS rfl rfl) ?_
    refine dC (oD ty23_NRef rfl rfl rfl) ?_
    refine dC (oM rfl (Conv.of rfl) rfl) ?_
    refine dC (oF f26_1_WrldS rfl rfl) ?_
    refine dC (oD ty23_NRef rfl rfl rfl) ?_
    refine dC (oM rfl (Conv.of rfl) rfl) ?_
    refine dC (op_ixA sl23_NodS rfl rfl rfl rfl ⟨by omega, by omega⟩) ?_
    refine dC (op_ldme ty90_NodS rfl rfl hx' rfl) ?_
    refine dC (oF f26_0_WrldS rfl rfl) ?_
    refine dC (oD ty3 rfl rfl rfl) ?_
    refine dC (oLM (s := 23) (ol := []) (ol' := []) (pre := []) fb131 (.nil _) rfl (.cons rfl (Conv.of rfl) (.nil _)) (l12Enter_ct _ _ hne) ols0 k0 k0 rfl argO0 (argOk' rfl rfl argO0) (fun o ho => absurd (show o ∈ ([] : List Nat) from ho) (by simp)) (fun o ho => absurd (show o ∈ ([] : List Nat) from ho) (by simp)) rfl) ?_
    refine dC (op_ixA sl23_NodS rfl rfl rfl rfl ⟨by omega, by rw [List.length_set]; omega⟩) ?_
    refine dC (op_stme ty90_NodS rfl rfl rfl (hy _)) ?_
    refine dr_nil mixed rfl ?_
    refine aR ?_
    refine oC (oM rfl (Conv.of rfl) rfl) ?_
    refine oC (oP rfl rfl rfl (by omega)) ?_
    refine oC (oA rfl (Conv.of rfl) rfl) ?_
    refine oN ?_
    repeat first | refine nS ?_ | refine nB ?_
    exact ⟨n_ - 1, _, by omega, ⟨k + 1, by omega, rfl⟩, Le.mk rfl (tlb rfl rfl rfl (tlb rfl rfl rfl (tle rfl (rfl) rfl tln))) (olk (by (exact congrArg Obj.arr (hnext _))) (by exact bN) (olk rfl (by exact obOkS rfl) (olk rfl (by exact obOkS0) oln))) (hU (a := so w) rfl)⟩
  · refine aE ?_
    repeat refine ex_seq ?_
    refine eB ?_
    have hk : k = 4 := by rw [hlen] at h; simp at h; omega
    subst hk
    refine aS (aR ?_)
    refine oC (op_ldm ty26_WrldS rfl rfl rfl) ?_
    refine oC (op_stm ty26_WrldS rfl rfl rfl) ?_
    refine oN ?_
    refine aT ?_
    repeat first | refine rS ?_ | refine rB ?_
    refine ⟨_, _, res1C (ol := [(1, .arr _)]) ty26_WrldS rfl rfl (inOne rfl) (olk rfl bN oln) (hU rfl), rfl, ?_⟩
    exact congrArg (fun z => obs [(1, Wt.Obj.arr z)]) (by rw [take_end (by omega), drop_end (by omega), List.append_nil]; rfl)
set_option maxHeartbeats 1000000 in
theorem l21Do_ct (w : Wrld) (e : Evt) (hw : FineX w) : CtO Tryz.prog 63 [.v (sW w), .v e] (so w) (.v (sW (doF w e))) (so (doF w e)) := by
  refine Ct.intro Tryz.func63 rfl rfl ?_
  all_goals refine aS (aR ?_)
  all_goals refine oC (op_boxm (o := 5) ty26_WrldS rfl rfl rfl rfl) ?_
  all_goals refine oC (op_box (o := 6) ty77 rfl (Conv.of rfl) rfl rfl) ?_
  all_goals refine oC (oX (o := 7) z26_WrldS rfl rfl) ?_
  all_goals refine oN ?_
  all_goals refine aS (aS (aR ?_))
  all_goals refine oC (oF f77_0 rfl rfl) ?_
  all_goals refine oC (oD ty3 rfl rfl rfl) ?_
  all_goals refine oN ?_
  refine aB ?_
  all_goals refine aS (aR ?_)
  all_goals refine oC (op_eql rfl rfl rfl) ?_
  all_goals refine oC (oA rfl (Conv.of rfl) rfl) ?_
  all_goals refine oN ?_
  refine aC rfl (fun h1 => ?_) (fun h1 => ?_)
  · have k1 : e.kind = 1 := by simpa using h1
    all_goals refine aS (aR ?_)
    all_goals refine oC (op_ldm ty26_WrldS rfl rfl rfl) ?_
    all_goals refine oC (oLM (s := 9) (pre := []) fb78 (.nil _) rfl (.nil _) (l21Tick_ct w hw.fine) (olsk rfl ols0) (kK (by exact bN) k0) (kK (by exact bN) k0) rfl argO0 argO0 (inOne rfl) (inOne rfl) rfl) ?_
    all_goals refine oC (op_stm ty26_WrldS rfl rfl rfl) ?_
    all_goals refine oN ?_
    refine aT ?_
    repeat first | refine rS ?_ | refine rB ?_
    refine ⟨_, _, res1C (ol := so (tickF w)) ty26_WrldS rfl rfl (inOne rfl) (olk rfl bN oln) (hU rfl), ?_, ?_⟩ <;> rw [doF, if_pos k1]
  · have k1 : ¬ e.kind = 1 := by simpa using h1
    all_goals refine aS (aR ?_)
    all_goals refine oC (op_eql rfl rfl rfl) ?_
    all_goals refine oC (oA rfl (Conv.of rfl) rfl) ?_
    all_goals refine oN ?_
    refine aC rfl (fun h2 => ?_) (fun h2 => ?_)
    · have k2 : e.kind = 2 := by simpa using h2
      all_goals refine aS (aR ?_)
      all_goals refine oC (op_ldm ty26_WrldS rfl rfl rfl) ?_
      all_goals refine oC (oF f77_1 rfl rfl) ?_
      all_goals refine oC (oD ty3 rfl rfl rfl) ?_
      all_goals refine oC (oF f77_3 rfl rfl) ?_
      all_goals refine oC (oD ty75 rfl rfl rfl) ?_
      all_goals refine oC (oLM (s := 13) (pre := []) fb79 (.nil _) rfl (.cons rfl (Conv.of rfl) (.cons rfl (Conv.of rfl) (.nil _))) (l21Propose_ct w _ _ hw) (olsk rfl ols0) (kK (by exact bN) k0) (kK (by exact bN) k0) rfl argO0 (argOk' rfl rfl (argOk' rfl rfl argO0)) (inOne rfl) (inOne rfl) rfl) ?_
      all_goals refine oC (op_stm ty26_WrldS rfl rfl rfl) ?_
      all_goals refine oN ?_
      refine aT ?_
      repeat first | refine rS ?_ | refine rB ?_
      refine ⟨_, _, res1C (ol := so (wproposeF w e.a e.pay)) ty26_WrldS rfl rfl (inOne rfl) (olk rfl bN oln) (hU rfl), ?_, ?_⟩ <;> rw [doF, if_neg k1, if_pos k2]
    · have k2 : ¬ e.kind = 2 := by simpa using h2
      all_goals refine aS (aR ?_)
      all_goals refine oC (op_eql rfl rfl rfl) ?_
      all_goals refine oC (oA rfl (Conv.of rfl) rfl) ?_
      all_goals refine oN ?_
      refine aC rfl (fun h3 => ?_) (fun h3 => ?_)
      · have k3 : e.kind = 3 := by simpa using h3
        all_goals refine aS (aR ?_)
        all_goals refine oC (op_ldm ty26_WrldS rfl rfl rfl) ?_
        all_goals refine oC (oF f77_1 rfl rfl) ?_
        all_goals refine oC (oD ty3 rfl rfl rfl) ?_
        all_goals refine oC (oF f77_2 rfl rfl) ?_
        all_goals refine oC (oD ty3 rfl rfl rfl) ?_
        all_goals refine oC (oLM (s := 21) (pre := []) fb117 (.nil _) rfl (.cons rfl (Conv.of rfl) (.cons rfl (Conv.of rfl) (.nil _))) (l21Bring_ct w _ _ hw) (olsk rfl ols0) (kK (by exact bN) k0) (kK (by exact bN) k0) rfl argO0 (argOk' rfl rfl (argOk' rfl rfl argO0)) (inOne rfl) (inOne rfl) rfl) ?_
        all_goals refine oC (op_stm ty26_WrldS rfl rfl rfl) ?_
        all_goals refine oN ?_
        refine aT ?_
        repeat first | refine rS ?_ | refine rB ?_
        refine ⟨_, _, res1C (ol := so (wbringF w e.a e.b)) ty26_WrldS rfl rfl (inOne rfl) (olk rfl bN oln) (hU rfl), ?_, ?_⟩ <;> rw [doF, if_neg k1, if_neg k2, if_pos k3]
      · have k3 : ¬ e.kind = 3 := by simpa using h3
        all_goals refine aS (aR ?_)
        all_goals refine oC (op_eql rfl rfl rfl) ?_
        all_goals refine oC (oA rfl (Conv.of rfl) rfl) ?_
        all_goals refine oN ?_
        refine aC rfl (fun h4 => ?_) (fun h4 => ?_)
        · have k4 : e.kind = 4 := by simpa using h4
          refine aST (s' := mkSt 45 [(2, .box 5 (IsLens.whole WrldS)), (3, .box 6 (IsLens.whole Evt)), (4, .box 7 (IsLens.whole WrldS)), (39, .v (voteOk e.vote && decide (e.vote.by_ = w.bad)))] [(1, .arr (w.nodes.map sN)), (5, .cell (sW w)), (6, .cell e), (7, .cell WrldS.zero)]) ?_ ?_
          · all_goals refine aR ?_
            all_goals refine oC (oF f77_4 rfl rfl) ?_
            all_goals refine oC (oD ty38 rfl rfl rfl) ?_
            all_goals refine oC (oL fb108 (.cons rfl (Conv.of rfl) (.nil _)) (l3Vote_ct _) (aK rfl rfl aK0) rfl rfl) ?_
            all_goals refine oC (oM rfl (Conv.of rfl) rfl) ?_
            all_goals refine g_split (t := 32) rfl (fun h => ?_) (fun h => ?_)
            all_goals first | refine oC (gF rfl rfl rfl rfl rfl) ?_ | refine oC (gN rfl rfl rfl (oF f77_4 rfl rfl)) ?_
            all_goals first | refine oC (gF rfl rfl rfl rfl rfl) ?_ | refine oC (gN rfl rfl rfl (oF f38_0 rfl rfl)) ?_
            all_goals first | refine oC (gF rfl rfl rfl rfl rfl) ?_ | refine oC (gN rfl rfl rfl (oD ty3 rfl rfl rfl)) ?_
            all_goals first | refine oC (gF rfl rfl rfl rfl rfl) ?_ | refine oC (gN rfl rfl rfl (oF f26_3_WrldS rfl rfl)) ?_
            all_goals first | refine oC (gF rfl rfl rfl rfl rfl) ?_ | refine oC (gN rfl rfl rfl (oD ty3 rfl rfl rfl)) ?_
            all_goals first | refine oC (gF rfl rfl rfl rfl rfl) ?_ | refine oC (gN rfl rfl rfl (op_eql rfl rfl rfl)) ?_
            all_goals refine oC (oQ rfl rfl rfl rfl) ?_
            all_goals refine oN ?_
            all_goals exact Le.mk rfl (tlb rfl rfl rfl (tlb rfl rfl rfl (tlb rfl rfl rfl (tle rfl (by (clear h1 h2 h3 h4; simp_all [sW]; try (rw [Bool.eq_iff_iff]; simp))) rfl tln)))) (olk rfl (by exact bN) (olk rfl (by exact obOkS rfl) (olk rfl (by exact bC) (olk rfl (by exact obOkS0) oln)))) (hU (a := so w) rfl)
          refine aC rfl (fun h5 => ?_) (fun h5 => ?_)
          · have hvo : voteOk e.vote = true := by simp only [Bool.and_eq_true] at h5; exact h5.1
            all_goals refine aS (aR ?_)
            all_goals refine oC (op_ldm ty26_WrldS rfl rfl rfl) ?_
            all_goals refine oC (oF f77_4 rfl rfl) ?_
            all_goals refine oC (oD ty38 rfl rfl rfl) ?_
            all_goals refine oC (oLM (s := 40) (pre := []) fb118 (.nil _) rfl (.cons rfl (Conv.of rfl) (.cons rfl (Conv.of rfl) (.nil _))) (l21Send_ct w _ true _ hw.fine.log (voteOk_len hvo)) (olsk rfl ols0) (kK (by exact bN) k0) (kK (by exact bN) k0) rfl argO0 (argOk' rfl rfl (argOk' rfl rfl argO0)) (inOne rfl) (inOne rfl) rfl) ?_
            all_goals refine oC (op_stm ty26_WrldS rfl rfl rfl) ?_
            all_goals refine oN ?_
            refine aT ?_
            repeat first | refine rS ?_ | refine rB ?_
            refine ⟨_, _, res1C (ol := so (sendF w e.vote)) ty26_WrldS rfl rfl (inOne rfl) (olk (congrArg (fun z : List Nod => Wt.Obj.arr (List.map sN z)) (send_nodes w e.vote).symm) bN oln) (hU rfl), ?_, ?_⟩ <;> rw [doF, if_neg k1, if_neg k2, if_neg k3, if_pos k4, h5, if_pos rfl]
          · refine aW ?_
            repeat first | refine nS ?_ | refine nB ?_
            all_goals refine aS (aR ?_)
            all_goals refine oC (op_ldm ty26_WrldS rfl rfl rfl) ?_
            all_goals refine oC (op_stm ty26_WrldS rfl rfl rfl) ?_
            all_goals refine oN ?_
            refine aT ?_
            repeat first | refine rS ?_ | refine rB ?_
            refine ⟨_, _, res1C (ol := so w) ty26_WrldS rfl rfl (inOne rfl) (olk rfl bN oln) (hU rfl), ?_, ?_⟩ <;> rw [doF, if_neg k1, if_neg k2, if_neg k3, if_pos k4, h5, if_neg (by decide)]
        · have k4 : ¬ e.kind = 4 := by simpa using h4
          refine aW ?_
          repeat first | refine nS ?_ | refine nB ?_
          all_goals refine aS (aR ?_)
          all_goals refine oC (op_ldm ty26_WrldS rfl rfl rfl) ?_
          all_goals refine oC (op_stm ty26_WrldS rfl rfl rfl) ?_
          all_goals refine oN ?_
          refine aT ?_
          repeat first | refine rS ?_ | refine rB ?_
          refine ⟨_, _, res1C (ol := so w) ty26_WrldS rfl rfl (inOne rfl) (olk rfl bN oln) (hU rfl), ?_, ?_⟩ <;> rw [doF, if_neg k1, if_neg k2, if_neg k3, if_neg k4]
theorem sWorldNew_w (bad : Int) (hb : within bad 0 4 = true) : Ct Tryz.prog 62 [.v bad] noObj (fun r1 h1 => r1 = .tup [.v (sW (newW bad)), .v true] ∧ h1 = obs (so (newW bad))) :=
  Ct.obs (sWorldNew_ct bad hb) fun G w ho o => by
    have h1 := ho 1
    have h1' : RelO G w 1 (.arr ([newC 1, newC 2, newC 3, newC 4] : List NodC)) := h1
    by_cases e : o = 1
    · subst e; exact arr_s h1'
    · have := ho o
      simpa [obs, lk0, e, orr] using this
end Go.Proofs.YtmhmeppocbcmeaaGreat

/- What is drawn. -/
set_option linter.unusedVariables false
set_option linter.unusedSimpArgs false
namespace Go.Wt
open Go
def mixV (b : List UInt8) (k : Int) : Int :=
  ((b.getD (k.tmod b.length).toNat 0).toNat : Int) * 131 + ((b.getD ((k * 7 + 3).tmod b.length).toNat 0).toNat : Int) * 1117 + k * 29 + IntKind.i64.wrap (k.tdiv b.length) * 53
/-- A number below `n`. -/
def pickV (b : List UInt8) (k n : Int) : Int :=
  if (decide (n < 1) || decide ((b.length : Int) = 0)) = true then 0
  else if decide (k < (b.length : Int)) = true then ((b.getD k.toNat 0).toNat : Int).tmod n
  else (xor64 (mixV b k) (IntKind.i64.wrap ((mixV b k).tdiv 64))).tmod n
theorem tdiv_bd {m n : Int} (h : 0 ≤ m) (hn : 0 < n) : 0 ≤ m.tdiv n ∧ m.tdiv n ≤ m := by
  rw [Int.tdiv_eq_ediv_of_nonneg h]
  exact ⟨Int.ediv_nonneg h (by omega), Int.ediv_le_self _ h⟩
theorem getD_get {b : List UInt8} {i : Int} (h0 : 0 ≤ i) (h : i < b.length) : b[i.toNat]? = some (b.getD i.toNat 0) := by
  rw [List.getElem?_eq_getElem (show i.toNat < b.length by omega), List.getD_eq_getElem?_getD, List.getElem?_eq_getElem (show i.toNat < b.length by omega)]; rfl
theorem tmod_bd {m n : Int} (h : 0 ≤ m) (hn : 0 < n) : 0 ≤ m.tmod n ∧ m.tmod n < n := ⟨Int.tmod_nonneg n h, Int.tmod_lt_of_pos m hn⟩
theorem u8_bd (x : UInt8) : (0 : Int) ≤ (x.toNat : Int) ∧ (x.toNat : Int) ≤ 255 := ⟨by omega, by have := x.toNat_lt; omega⟩
theorem mixV_bd {b : List UInt8} {k : Int} (h : 0 ≤ k ∧ k ≤ 1000000) (hb : 0 < b.length) : 0 ≤ mixV b k ∧ mixV b k ≤ 100000000 := by
  have h1 := u8_bd (b.getD (k.tmod b.length).toNat 0)
  have h2 := u8_bd (b.getD ((k * 7 + 3).tmod b.length).toNat 0)
  have h3 := tdiv_bd h.1 (show (0 : Int) < b.length by omega)
  have h4 : IntKind.i64.wrap (k.tdiv b.length) = k.tdiv b.length := wrap_in (by omega)
  unfold mixV
  rw [h4]
  omega
theorem xor64_bd {m n : Int} (h1 : 0 ≤ m ∧ m ≤ 1000000000) (h2 : 0 ≤ n ∧ n ≤ 1000000000) : 0 ≤ xor64 m n := by
  unfold xor64
  obtain ⟨a, rfl⟩ := Int.eq_ofNat_of_zero_le h1.1
  obtain ⟨c, rfl⟩ := Int.eq_ofNat_of_zero_le h2.1
  have e : (BitVec.ofInt 64 (a : Int) ^^^ BitVec.ofInt 64 (c : Int)).toNat = a ^^^ c := by
    have ha : a < 2 ^ 64 := by omega
    have hc : c < 2 ^ 64 := by omega
    rw [BitVec.toNat_xor]
    simp only [BitVec.ofInt_natCast, BitVec.toNat_ofNat, Nat.mod_eq_of_lt ha, Nat.mod_eq_of_lt hc]
  have hx : a ^^^ c < 2 ^ 62 := Nat.xor_lt_two_pow (by omega) (by omega)
  rw [e, wrap_in (by omega)]
  omega
theorem pickV_bd {b : List UInt8} {k n : Int} (h : 0 ≤ k ∧ k ≤ 1000000) : 0 ≤ pickV b k n ∧ (1 ≤ n → pickV b k n < n) := by
  unfold pickV
  split
  · exact ⟨by omega, fun h => by omega⟩
  · rename_i hh
    simp only [Bool.or_eq_true, decide_eq_true_eq, not_or] at hh
    have hb : 0 < b.length := by omega
    split
    · have := tmod_bd (u8_bd (b.getD k.toNat 0)).1 (show 0 < n by omega)
      exact ⟨this.1, fun _ => this.2⟩
    · have hm := mixV_bd h hb
      have h3 := tdiv_bd hm.1 (show (0 : Int) < 64 by omega)
      have h4 : IntKind.i64.wrap ((mixV b k).tdiv 64) = (mixV b k).tdiv 64 := wrap_in (by omega)
      rw [h4]
      have := tmod_bd (xor64_bd (m := mixV b k) (n := (mixV b k).tdiv 64) (by omega) (by omega)) (show 0 < n by omega)
      exact ⟨this.1, fun _ => this.2⟩
def nx (r : Rd) (c : Int) : Rd := ⟨r.b, r.p + c⟩
theorem nx_nx (r : Rd) (c d : Int) : nx (nx r c) d = nx r (c + d) := by simp [nx, Int.add_assoc]
def pk (r : Rd) (n : Int) : Int := pickV r.b r.p n
/-- The reader has not gone too far. -/
def Far (m : Int) (r : Rd) : Prop := 0 ≤ r.p ∧ r.p ≤ m
theorem Far.nx {m c m' : Int} {r : Rd} (h : Far m r) (hc : 0 ≤ c) (hm : m + c ≤ m') : Far m' (nx r c) := by
  unfold Far Go.Wt.nx at *; simp only; omega
theorem Far.weak {m m' : Int} {r : Rd} (h : Far m r) (hm : m ≤ m') : Far m' r := by unfold Far at *; omega
theorem pk_bd {m : Int} {r : Rd} (h : Far m r) (hm : m ≤ 1000000) (n : Int) : 0 ≤ pk r n ∧ (1 ≤ n → pk r n < n) := pickV_bd (by unfold Far at h; omega)
def payV (r : Rd) : Pay := ⟨1 + pk r 3, (1 + pk r 3 + pk (nx r 1) 2).tmod 3 + 1, 1 + pk (nx r 2) 9⟩
def chStep (s : Int × List Itm × Rd) : Int × List Itm × Rd :=
  (s.1 + 1 + IntKind.i64.wrap ((pk s.2.2 6).tdiv 5) * pk (nx s.2.2 1) 3, s.2.1 ++ [⟨s.1 + 1 + IntKind.i64.wrap ((pk s.2.2 6).tdiv 5) * pk (nx s.2.2 1) 3, payV (nx s.2.2 2)⟩], nx s.2.2 5)
def chIter (r : Rd) : Nat → Int × List Itm × Rd
  | 0 => (0, [], nx r 1)
  | n + 1 => chStep (chIter r n)
def chainV (r : Rd) : List Itm := (chIter r (pk r 7).toNat).2.1
def chainR (r : Rd) : Rd := (chIter r (pk r 7).toNat).2.2
theorem chIter_r (r : Rd) : ∀ n : Nat, (chIter r n).2.2 = nx r (1 + 5 * n)
  | 0 => rfl
  | n + 1 => by
    simp only [chIter, chStep, chIter_r r n, nx_nx]
    first | (congr 1; omega) | congr 1
theorem chIter_len (r : Rd) : ∀ n : Nat, (chIter r n).2.1.length = n
  | 0 => rfl
  | n + 1 => by simp [chIter, chStep, chIter_len r n]
theorem chIter_at {m : Int} {r : Rd} (h : Far m r) (hm : m + 1000 ≤ 1000000) : ∀ n : Nat, n ≤ 100 → 0 ≤ (chIter r n).1 ∧ (chIter r n).1 ≤ 4 * n
  | 0, _ => by simp [chIter]
  | n + 1, hn => by
    have ih := chIter_at h hm n (by omega)
    have hf : Far (m + 1 + 5 * n) (nx r (1 + 5 * (n : Int))) := h.nx (by omega) (by omega)
    have h1 := pk_bd hf (by omega) 6
    have h2 := pk_bd (hf.nx (c := 1) (m' := m + 2 + 5 * n) (by omega) (by omega)) (by omega) 3
    have h3 : (pk (nx r (1 + 5 * (n : Int))) 6).tdiv 5 = 0 ∨ (pk (nx r (1 + 5 * (n : Int))) 6).tdiv 5 = 1 := by
      rw [Int.tdiv_eq_ediv_of_nonneg h1.1]
      have := h1.2 (by omega)
      omega
    simp only [chIter, chStep, chIter_r]
    rcases h3 with h3 | h3
    · rw [h3, wrap_in (by omega)]; omega
    · rw [h3, wrap_in (by omega)]
      have := h2.2 (by omega)
      omega
theorem chainV_len {m : Int} {r : Rd} (h : Far m r) (hm : m ≤ 1000000) : (chainV r).length ≤ 6 := by
  unfold chainV
  rw [chIter_len]
  have := pk_bd h hm 7
  have := this.2 (by omega)
  omega
theorem chainR_eq {r : Rd} : chainR r = nx r (1 + 5 * ((pk r 7).toNat : Int)) := chIter_r r _
theorem chainR_far {m : Int} {r : Rd} (h : Far m r) (hm : m ≤ 1000000) : Far (m + 31) (chainR r) := by
  rw [chainR_eq]
  have := pk_bd h hm 7
  have := this.2 (by omega)
  exact h.nx (by omega) (by omega)
/-- What comes first ends in one of many states. -/
theorem awp_seq_ex {P : Program} {S : Nat → Prop} {st : St} {ι : Type} {x y : Code} {Q : Exit → St → Prop} (s' : ι → St) (Φ : ι → Prop) (h1 : awp P S x (athen (fun s => ∃ i, Φ i ∧ Le S s (s' i)) Q) st) (h2 : ∀ i, Φ i → awp P S y Q (s' i)) : awp P S (.seq x y) Q st :=
  aS (awp_mono h1 fun e s q => by
    cases e with
    | normal => obtain ⟨i, q1, q2⟩ := q; exact awp_le q2 (h2 i q1)
    | exit id => exact q
    | goto l => exact q
    | ret => exact q
    | panic ch => exact q
    | outgrown => exact q)
theorem awp_to_ex {P : Program} {S : Nat → Prop} {st : St} {ι : Type} {x y : Code} {Q Q' : Exit → St → Prop} (s' : ι → St) (Φ : ι → Prop) (h1 : awp P S x (athen (fun s => ∃ i, Φ i ∧ Le S s (s' i)) Q) st) (h2 : ∀ i, Φ i → awp P S y Q' (s' i)) : awp P S x (athen (awp P S y Q') Q) st :=
  awp_mono h1 fun e s q => by
    cases e with
    | normal => obtain ⟨i, q1, q2⟩ := q; exact awp_le q2 (h2 i q1)
    | exit id => exact q
    | goto l => exact q
    | ret => exact q
    | panic ch => exact q
    | outgrown => exact q
/-- A call whose result isn't known in full. -/
theorem awpOps_callE {P : Program} {S : Nat → Prop} {ops : Array Oper} {st : St} {d : Nat} {T pos aft} {x : Operand} {f : FuncId} {xs : List Operand} {av : List AV} {ts : Array TypeId} {rt : List Nat} {l : List Oper} {Q : St → Prop} {ι : Type} (ol : List (Nat × Obj)) (fr : ι → AV) (g : ι → List (Nat × Obj)) (Φ : ι → Prop) {R : AV → (Nat → Obj) → Prop}
    (hfun : st.ev x = some (.fn f [] [])) (hB : fnB P f = true) (ha : Args st 0 xs av rt) (hct : Ct P f av (obs ol) R) (hR : ∀ r h', R r h' → ∃ i, r = fr i ∧ h' = obs (g i) ∧ Φ i) (hol : OLs st ol) (hok : OKs (keys ol) ol)
    (hdis : ∀ z ∈ av, z.dis = z ∧ ∀ o ∈ z.refs, keys ol o = true) (hn : Nat.blt d st.n = true) (hke : ∀ i, keysEq ol (g i) = true) (hok' : ∀ i, OKs (keys ol) (g i)) (hrr : ∀ i, ∀ o ∈ (fr i).refs, keys ol o = true)
    (hk : ∀ i, Φ i → awpOps P S ops l Q (st.upd [(d, some (fr i))] (g i))) :
    awpOps P S ops (⟨some d, .call { callee := .value x, args := xs.toArray, argTypes := ts }, T, pos, aft, none⟩ :: l) Q st :=
  awpOps_callO (fa := []) (fc := []) ol hfun hB ha (by simpa [avs] using hct) hol hok (by simpa [avs] using hdis) hn fun r h' hr => by
    obtain ⟨i, rfl, rfl, hi⟩ := hR r h' hr
    have hkk := keysEq_keys (hke i)
    refine ⟨g i, rfl, fun o ho => (by rw [← hkk]; exact ho), fun o ho h1 => (by rw [← hkk] at ho; rw [ho] at h1; cases h1), ?_, fun o ho => (by rw [← hkk]; exact hrr i o ho), hk i hi⟩
    rw [← hkk]; exact hok' i
theorem awp_toB_ex {P : Program} {S : Nat → Prop} {st : St} {id : Nat} {ι : Type} {x y : Code} {Q Q' : Exit → St → Prop} (s' : ι → St) (Φ : ι → Prop) (h1 : awp P S x (ablock id (athen (fun s => ∃ i, Φ i ∧ Le S s (s' i)) Q)) st) (h2 : ∀ i, Φ i → awp P S y Q' (s' i)) : awp P S x (ablock id (athen (awp P S y Q') Q)) st :=
  awp_mono h1 fun e s q => by
    cases e with
    | normal => obtain ⟨i, q1, q2⟩ := q; exact awp_le q2 (h2 i q1)
    | exit j =>
      simp only [ablock] at q ⊢
      split at q
      · rw [if_pos (by assumption)]; obtain ⟨i, q1, q2⟩ := q; exact awp_le q2 (h2 i q1)
      · rw [if_neg (by assumption)]; exact q
    | goto l => exact q
    | ret => exact q
    | panic ch => exact q
    | outgrown => exact q
section bools
variable {P : Program} {S : Nat → Prop} {ops : Array Oper} {st : St} {d : Nat} {T pos aft} {x y : Operand} {t t' : TypeId} {m n : Bool}
theorem bool_bin {op : BinOp} {av : AV} {u : Value} (hx : st.ev x = some (.v m)) (hy : st.ev y = some (.v n)) (hn : Nat.blt d st.n = true)
    (h1 : ∀ w : World, (binOp op t (.bool m) (.bool n)).run P w = .ok u w) (h3 : ∀ G w ω, RelV G w ω av u) :
    OpOk P S ops ⟨some d, .binOp op t x y t', T, pos, aft, none⟩ (opT x ++ opT y) [] [(d, some av)] [] st :=
  bin_value hn fun st1 hag G w a hr => by
    have e1 := RelV.bool (hr.at hag hx fun t ht => by simp [ht])
    have e2 := RelV.bool (hr.at hag hy fun t ht => by simp [ht])
    refine ⟨u, by rw [e1, e2]; exact h1 w, by rw [e1, eqGuard_at_bool]; rfl, h3 _ _ _⟩
theorem binOp_eql_bool (t : TypeId) (m n : Bool) : binOp .eql t (.bool m) (.bool n) = (do pure (.bool (← Op.equal t (.bool m) (.bool n)))) := by unfold binOp; rfl
theorem binOp_neq_bool (t : TypeId) (m n : Bool) : binOp .neq t (.bool m) (.bool n) = (do pure (.bool !(← Op.equal t (.bool m) (.bool n)))) := by unfold binOp; rfl
theorem op_beql (hu : P.underlying t = some .bool) (hx : st.ev x = some (.v m)) (hy : st.ev y = some (.v n)) (hn : Nat.blt d st.n = true) :
    OpOk P S ops ⟨some d, .binOp .eql t x y t', T, pos, aft, none⟩ (opT x ++ opT y) [] [(d, some (.v (m == n)))] [] st :=
  bool_bin hx hy hn (u := .bool (m == n)) (fun w => by rw [binOp_eql_bool]; simp only [Sem.run_bind, run_equal_bool w t m n hu, Result.andThen_ok, Sem.run_pure]) fun G w ω => relBool G w ω _
theorem op_bneq (hu : P.underlying t = some .bool) (hx : st.ev x = some (.v m)) (hy : st.ev y = some (.v n)) (hn : Nat.blt d st.n = true) :
    OpOk P S ops ⟨some d, .binOp .neq t x y t', T, pos, aft, none⟩ (opT x ++ opT y) [] [(d, some (.v (!(m == n))))] [] st :=
  bool_bin hx hy hn (u := .bool !(m == n)) (fun w => by rw [binOp_neq_bool]; simp only [Sem.run_bind, run_equal_bool w t m n hu, Result.andThen_ok, Sem.run_pure]) fun G w ω => relBool G w ω _
end bools
end Go.Wt

/- The reference: draws. -/
set_option linter.unusedVariables false
set_option linter.unusedSimpArgs false
namespace Go.Proofs.YtmhmeppocbcmeaaGreat
open Go Go.Wt
theorem l6Open_ct (code : List UInt8) : Ct Tryz.prog 37 [.v code] noObj (fun r1 h1 => r1 = .box 0 (IsLens.whole Rd) ∧ h1 = obs [(0, .cell (Rd.mk (code.take 2000) 0))]) := by
  refine Ct.intro Tryz.func37 rfl rfl ?_
  refine aS (aR ?_)
  refine oC (oA rfl (Conv.of rfl) rfl) ?_
  refine oN ?_
  refine aS (aS (aR ?_))
  refine oC (oM rfl (Conv.of rfl) rfl) ?_
  refine oC (oE sl22 rfl rfl) ?_
  refine oC (op_gtr rfl rfl rfl) ?_
  refine oN ?_
  refine aC rfl (fun h => ?_) (fun h => ?_)
  · refine aR ?_
    refine oC (oM rfl (Conv.of rfl) rfl) ?_
    refine oC (op_slh sl22 rfl rfl rfl ⟨by omega, by simp at h; omega⟩) ?_
    refine oC (oA rfl (Conv.of rfl) rfl) ?_
    refine oN ?_
    refine aS (aR ?_)
    refine oC (oM rfl (Conv.of rfl) rfl) ?_
    refine oC (op_build (.cons f129_0 rfl (Conv.of rfl) (.nil _)) z129 rfl pl129 rfl) ?_
    refine oC (op_box (o := 0) ty129 rfl (Conv.of rfl) rfl rfl) ?_
    refine oC (oA rfl (Conv.of rfl) rfl) ?_
    refine oN ?_
    refine aT ?_
    repeat first | refine rS ?_ | refine rB ?_
    exact ⟨_, _, res1E [(0, .cell (Rd.mk (code.take 2000) 0))] rfl rfl rfl (olk rfl bC oln) noS, rfl, rfl⟩
  · have e : code.take 2000 = code := take_end (by simp at h; omega)
    refine aW ?_
    refine aS (aR ?_)
    refine oC (oM rfl (Conv.of rfl) rfl) ?_
    refine oC (op_build (.cons f129_0 rfl (Conv.of rfl) (.nil _)) z129 rfl pl129 rfl) ?_
    refine oC (op_box (o := 0) ty129 rfl (Conv.of rfl) rfl rfl) ?_
    refine oC (oA rfl (Conv.of rfl) rfl) ?_
    refine oN ?_
    refine aT ?_
    repeat first | refine rS ?_ | refine rB ?_
    refine ⟨_, _, res1E [(0, .cell (Rd.mk code 0))] rfl rfl rfl (olk rfl bC oln) noS, rfl, ?_⟩
    rw [e]
set_option maxHeartbeats 1000000 in
theorem pick_ct (r : Rd) (n : Int) (hp : 0 ≤ r.p ∧ r.p ≤ 1000000) : CtO Tryz.prog 40 [.box 0 (IsLens.whole Rd), .v n] [(0, .cell r)] (.v (pk r n)) [(0, .cell (nx r 1))] := by
  refine Ct.intro Tryz.func40 rfl rfl ?_
  all_goals refine aS (aR ?_)
  all_goals refine oC (oA rfl (Conv.of rfl) rfl) ?_
  all_goals refine oN ?_
  all_goals refine aS (aR ?_)
  all_goals refine oC (oM rfl (Conv.of rfl) rfl) ?_
  all_goals refine oC (oM rfl (Conv.of rfl) rfl) ?_
  all_goals refine oC (oNB rfl rfl) ?_
  all_goals refine oC (oF f129_1 rfl rfl) ?_
  all_goals refine oC (oD ty3 rfl rfl rfl) ?_
  all_goals refine oC (oP rfl rfl rfl (by omega)) ?_
  all_goals refine oC (oNB rfl rfl) ?_
  all_goals refine oC (oF f129_1 rfl rfl) ?_
  all_goals refine oC (op_st ty3 rfl rfl (Conv.of rfl) rfl) ?_
  all_goals refine oN ?_
  refine aS (aST (s' := mkSt 99 [(0, .box 0 (IsLens.whole Rd)), (1, .v n), (24, .v (decide (n < 1) || decide ((r.b.length : Int) = 0)))] [(0, .cell (nx r 1))]) ?_ ?_)
  · all_goals refine aR ?_
    all_goals refine oC (oM rfl (Conv.of rfl) rfl) ?_
    all_goals refine oC (oLt rfl rfl rfl) ?_
    all_goals refine oC (oM rfl (Conv.of rfl) rfl) ?_
    all_goals refine g_split (t := 17) rfl (fun h => ?_) (fun h => ?_)
    all_goals first | refine oC (gF rfl rfl rfl rfl rfl) ?_ | refine oC (gN rfl rfl rfl (oM rfl (Conv.of rfl) rfl)) ?_
    all_goals first | refine oC (gF rfl rfl rfl rfl rfl) ?_ | refine oC (gN rfl rfl rfl (oNB rfl rfl)) ?_
    all_goals first | refine oC (gF rfl rfl rfl rfl rfl) ?_ | refine oC (gN rfl rfl rfl (oF f129_0 rfl rfl)) ?_
    all_goals first | refine oC (gF rfl rfl rfl rfl rfl) ?_ | refine oC (gN rfl rfl rfl (oD ty22 rfl rfl rfl)) ?_
    all_goals first | refine oC (gF rfl rfl rfl rfl rfl) ?_ | refine oC (gN rfl rfl rfl (oE sl22 rfl rfl)) ?_
    all_goals first | refine oC (gF rfl rfl rfl rfl rfl) ?_ | refine oC (gN rfl rfl rfl (op_eql rfl rfl rfl)) ?_
    all_goals refine oC (oQ rfl rfl rfl rfl) ?_
    all_goals refine oN ?_
    all_goals exact Le.mk rfl (tlb rfl rfl rfl (tle rfl (rfl) rfl (tle rfl (by (simp_all [nx]; try (rw [Bool.eq_iff_iff]; simp); try (intro hh; omega))) rfl tln))) (olk rfl (by exact bC) oln) (hU (a := [(0, .cell r)]) rfl)
  refine aC rfl (fun h => ?_) (fun h => ?_)
  · all_goals refine aS (aR ?_)
    all_goals refine oC (oA rfl (Conv.of rfl) rfl) ?_
    all_goals refine oN ?_
    refine aT ?_
    repeat first | refine rS ?_ | refine rB ?_
    refine finO1 [(0, .cell (nx r 1))] (.v rfl (Conv.of rfl)) (fun o ho => by cases ho) (olk rfl bC oln) (hK rfl) ?_
    show AV.v _ = AV.v _
    unfold pk pickV
    rw [if_pos h]
  · have hb : r.b.length ≠ 0 := by
      simp only [Bool.or_eq_false_iff, decide_eq_false_iff_not] at h; omega
    have hn : n ≠ 0 := by
      simp only [Bool.or_eq_false_iff, decide_eq_false_iff_not] at h; omega
    refine aW ?_
    refine aST (s' := mkSt 99 [(0, .box 0 (IsLens.whole Rd)), (1, .v n), (5, .v r.p)] [(0, .cell (nx r 1))]) ?_ ?_
    · all_goals refine aR ?_
      all_goals refine oC (oM rfl (Conv.of rfl) rfl) ?_
      all_goals refine oC (oNB rfl rfl) ?_
      all_goals refine oC (oF f129_1 rfl rfl) ?_
      all_goals refine oC (oD ty3 rfl rfl rfl) ?_
      all_goals refine oC (op_sub rfl rfl rfl (by (simp only [nx]; omega))) ?_
      all_goals refine oC (oA rfl (Conv.of rfl) rfl) ?_
      all_goals refine oN ?_
      all_goals exact Le.mk rfl (tlb rfl rfl rfl (tle rfl (rfl) rfl (tle rfl (by (simp only [nx]; congr 1; omega)) rfl tln))) (olk rfl (by exact bC) oln) (hU (a := [(0, .cell r)]) rfl)
    all_goals refine aS (aS (aR ?_))
    all_goals refine oC (oM rfl (Conv.of rfl) rfl) ?_
    all_goals refine oC (oM rfl (Conv.of rfl) rfl) ?_
    all_goals refine oC (oNB rfl rfl) ?_
    all_goals refine oC (oF f129_0 rfl rfl) ?_
    all_goals refine oC (oD ty22 rfl rfl rfl) ?_
    all_goals refine oC (oE sl22 rfl rfl) ?_
    all_goals refine oC (oLt rfl rfl rfl) ?_
    all_goals refine oN ?_
    refine aC rfl (fun h2 => ?_) (fun h2 => ?_)
    · have hlt : r.p < r.b.length := of_decide_eq_true h2
      have hx := getD_get hp.1 hlt
      all_goals refine aS (aR ?_)
      all_goals refine oC (oM rfl (Conv.of rfl) rfl) ?_
      all_goals refine oC (oNB rfl rfl) ?_
      all_goals refine oC (oF f129_0 rfl rfl) ?_
      all_goals refine oC (oD ty22 rfl rfl rfl) ?_
      all_goals refine oC (oM rfl (Conv.of rfl) rfl) ?_
      all_goals refine oC (op_ix sl22 rfl rfl rfl (by omega) hx) ?_
      all_goals refine oC (oDR ty5 rfl rfl) ?_
      all_goals refine oC (op_cvb rfl rfl us5 ui3) ?_
      all_goals refine oC (oM rfl (Conv.of rfl) rfl) ?_
      all_goals refine oC (op_rem rfl rfl rfl (by exact hn)) ?_
      all_goals refine oC (oA rfl (Conv.of rfl) rfl) ?_
      all_goals refine oN ?_
      refine aT ?_
      repeat first | refine rS ?_ | refine rB ?_
      refine finO1 [(0, .cell (nx r 1))] (.v rfl (Conv.of rfl)) (fun o ho => by cases ho) (olk rfl bC oln) (hK rfl) ?_
      show AV.v _ = AV.v _
      unfold pk pickV
      rw [if_neg (by rw [h]; decide), if_pos (by simpa using hlt)]
    · have hge : ¬ r.p < r.b.length := of_decide_eq_false h2
      have m1 := tmod_bd hp.1 (show (0 : Int) < (nx r 1).b.length by simp [nx]; omega)
      have m2 := tmod_bd (show 0 ≤ r.p * 7 + 3 by omega) (show (0 : Int) < (nx r 1).b.length by simp [nx]; omega)
      have hx1 := getD_get m1.1 m1.2
      have hx2 := getD_get m2.1 m2.2
      have b1 := u8_bd ((nx r 1).b.getD (r.p.tmod (nx r 1).b.length).toNat 0)
      have b2 := u8_bd ((nx r 1).b.getD ((r.p * 7 + 3).tmod (nx r 1).b.length).toNat 0)
      have h3 := tdiv_bd hp.1 (show (0 : Int) < (nx r 1).b.length by simp [nx]; omega)
      have h4 : IntKind.i64.wrap (r.p.tdiv (nx r 1).b.length) = r.p.tdiv (nx r 1).b.length := wrap_in (by omega)
      refine aW ?_
      all_goals refine aS (dS ?_)
      all_goals refine dC (oM rfl (Conv.of rfl) rfl) ?_
      all_goals refine dC (oNB rfl rfl) ?_
      all_goals refine dC (oF f129_0 rfl rfl) ?_
      all_goals refine dC (oD ty22 rfl rfl rfl) ?_
      all_goals refine dC (oM rfl (Conv.of rfl) rfl) ?_
      all_goals refine dC (oM rfl (Conv.of rfl) rfl) ?_
      all_goals refine dC (oNB rfl rfl) ?_
      all_goals refine dC (oF f129_0 rfl rfl) ?_
      all_goals refine dC (oD ty22 rfl rfl rfl) ?_
      all_goals refine dC (oE sl22 rfl rfl) ?_
      all_goals refine dC (op_rem rfl rfl rfl (by (show (r.b.length : Int) ≠ 0; omega))) ?_
      all_goals refine dC (op_ix sl22 rfl rfl rfl (by omega) hx1) ?_
      all_goals refine dC (oDR ty5 rfl rfl) ?_
      all_goals refine dC (op_cvb rfl rfl us5 ui3) ?_
      all_goals refine dC (op_mul rfl rfl rfl (by omega)) ?_
      all_goals refine dC (oM rfl (Conv.of rfl) rfl) ?_
      all_goals refine dC (oNB rfl rfl) ?_
      all_goals refine dC (oF f129_0 rfl rfl) ?_
      all_goals refine dC (oD ty22 rfl rfl rfl) ?_
      all_goals refine dC (oM rfl (Conv.of rfl) rfl) ?_
      all_goals refine dC (op_mul rfl rfl rfl (by omega)) ?_
      all_goals refine dC (oP rfl rfl rfl (by omega)) ?_
      all_goals refine dC (oM rfl (Conv.of rfl) rfl) ?_
      all_goals refine dC (oNB rfl rfl) ?_
      all_goals refine dC (oF f129_0 rfl rfl) ?_
      all_goals refine dC (oD ty22 rfl rfl rfl) ?_
      all_goals refine dC (oE sl22 rfl rfl) ?_
      all_goals refine dC (op_rem rfl rfl rfl (by (show (r.b.length : Int) ≠ 0; omega))) ?_
      all_goals refine dC (op_ix sl22 rfl rfl rfl (by omega) hx2) ?_
      all_goals refine dC (oDR ty5 rfl rfl) ?_
      all_goals refine dC (op_cvb rfl rfl us5 ui3) ?_
      all_goals refine dC (op_mul rfl rfl rfl (by omega)) ?_
      all_goals refine dC (oP rfl rfl rfl (by omega)) ?_
      all_goals refine dC (oM rfl (Conv.of rfl) rfl) ?_
      all_goals refine dC (op_mul rfl rfl rfl (by omega)) ?_
      all_goals refine dC (oP rfl rfl rfl (by omega)) ?_
      all_goals refine dC (oM rfl (Conv.of rfl) rfl) ?_
      all_goals refine dC (oM rfl (Conv.of rfl) rfl) ?_
      all_goals refine dC (oNB rfl rfl) ?_
      all_goals refine dC (oF f129_0 rfl rfl) ?_
      all_goals refine dC (oD ty22 rfl rfl rfl) ?_
      all_goals refine dC (oE sl22 rfl rfl) ?_
      all_goals refine dC (op_quo rfl rfl rfl (by (show (r.b.length : Int) ≠ 0; omega))) ?_
      all_goals refine dC (op_mul rfl rfl rfl (by (rw [h4]; omega))) ?_
      all_goals refine dC (oP rfl rfl rfl (by (rw [h4]; omega))) ?_
      all_goals refine dC (oA rfl (Conv.of rfl) rfl) ?_
      all_goals set_option maxRecDepth 100000 in refine dr_nil mixed rfl ?_
      all_goals refine aS (aR ?_)
      all_goals refine oC (oM rfl (Conv.of rfl) rfl) ?_
      all_goals refine oC (oM rfl (Conv.of rfl) rfl) ?_
      all_goals refine oC (op_quo rfl rfl rfl (by decide)) ?_
      all_goals refine oC (op_xor rfl rfl rfl) ?_
      all_goals refine oC (oA rfl (Conv.of rfl) rfl) ?_
      all_goals refine oN ?_
      all_goals refine aS (aR ?_)
      all_goals refine oC (oM rfl (Conv.of rfl) rfl) ?_
      all_goals refine oC (oM rfl (Conv.of rfl) rfl) ?_
      all_goals refine oC (op_rem rfl rfl rfl (by exact hn)) ?_
      all_goals refine oC (oA rfl (Conv.of rfl) rfl) ?_
      all_goals refine oN ?_
      refine aT ?_
      repeat first | refine rS ?_ | refine rB ?_
      refine finO1 [(0, .cell (nx r 1))] (.v rfl (Conv.of rfl)) (fun o ho => by cases ho) (olk rfl bC oln) (hK rfl) ?_
      show AV.v _ = AV.v _
      unfold pk pickV mixV
      rw [if_neg (by rw [h]; decide), if_neg (by simpa using hge)]
      rfl
end Go.Proofs.YtmhmeppocbcmeaaGreat

/- The reference: draws of payments and chains. -/
set_option linter.unusedVariables false
set_option linter.unusedSimpArgs false
namespace Go.Proofs.YtmhmeppocbcmeaaGreat
open Go Go.Wt
theorem l71Pay_ct (r : Rd) (hp : Far 900000 r) : CtO Tryz.prog 39 [.box 0 (IsLens.whole Rd)] [(0, .cell r)] (.v (payV r)) [(0, .cell (nx r 3))] := by
  have hp1 : Far 900001 (nx r 1) := hp.nx (by omega) (by omega)
  have hp2 : Far 900002 (nx (nx r 1) 1) := hp1.nx (by omega) (by omega)
  have b0 := pk_bd hp (by omega) 3
  have b1 := pk_bd hp1 (by omega) 2
  have b2 := pk_bd hp2 (by omega) 9
  have c0 := b0.2 (by omega)
  have c1 := b1.2 (by omega)
  have c2 := b2.2 (by omega)
  have m1 := tmod_bd (show 0 ≤ 1 + pk r 3 + pk (nx r 1) 2 by omega) (show (0 : Int) < 3 by omega)
  refine Ct.intro Tryz.func39 rfl rfl ?_
  refine aS (aR ?_)
  refine oC (oX (o := 2) z75 rfl rfl) ?_
  refine oN ?_
  refine aS (aR ?_)
  refine oC (oM rfl (Conv.of rfl) rfl) ?_
  refine oC (oLO fb40 (.cons rfl (Conv.of rfl) (.cons rfl (Conv.of rfl) (.nil _))) (pick_ct r 3 (by unfold Far at hp; omega)) (olsk rfl ols0) (kK (by exact bC) k0) (kK (by exact bC) k0) rfl (argOb rfl rfl rfl (argOk' rfl rfl argO0)) (fun o ho => by cases ho) rfl) ?_
  refine oC (oP rfl rfl rfl (by omega)) ?_
  refine oC (oA rfl (Conv.of rfl) rfl) ?_
  refine oN ?_
  refine aS (aR ?_)
  refine oC (oM rfl (Conv.of rfl) rfl) ?_
  refine oC (oM rfl (Conv.of rfl) rfl) ?_
  refine oC (oM rfl (Conv.of rfl) rfl) ?_
  refine oC (oLO fb40 (.cons rfl (Conv.of rfl) (.cons rfl (Conv.of rfl) (.nil _))) (pick_ct (nx r 1) 2 (by unfold Far at hp1; omega)) (olsk rfl ols0) (kK (by exact bC) k0) (kK (by exact bC) k0) rfl (argOb rfl rfl rfl (argOk' rfl rfl argO0)) (fun o ho => by cases ho) rfl) ?_
  refine oC (oP rfl rfl rfl (by omega)) ?_
  refine oC (op_rem rfl rfl rfl (by decide)) ?_
  refine oC (oP rfl rfl rfl (by omega)) ?_
  refine oC (oM rfl (Conv.of rfl) rfl) ?_
  refine oC (oLO fb40 (.cons rfl (Conv.of rfl) (.cons rfl (Conv.of rfl) (.nil _))) (pick_ct (nx (nx r 1) 1) 9 (by unfold Far at hp2; omega)) (olsk rfl ols0) (kK (by exact bC) k0) (kK (by exact bC) k0) rfl (argOb rfl rfl rfl (argOk' rfl rfl argO0)) (fun o ho => by cases ho) rfl) ?_
  refine oC (oP rfl rfl rfl (by omega)) ?_
  refine oC (op_build (.cons f75_0 rfl (Conv.of rfl) (.cons f75_1 rfl (Conv.of rfl) (.cons f75_2 rfl (Conv.of rfl) (.nil _)))) z75 rfl pl75 rfl) ?_
  refine oC (op_st ty75 rfl rfl (Conv.of rfl) rfl) ?_
  refine oN ?_
  refine aT ?_
  repeat first | refine rS ?_ | refine rB ?_
  refine finO1 [(0, .cell (nx r 3))] (.rc ty75 rfl rfl) (fun o ho => by cases ho) (olk (by show Wt.Obj.cell _ = Wt.Obj.cell _; rw [nx_nx, nx_nx]; rfl) bC oln) (hK rfl) ?_
  show AV.v _ = AV.v _
  unfold payV
  rw [nx_nx]; rfl
set_option maxHeartbeats 1000000 in
theorem l71Chain_ct (r : Rd) (hp : Far 800000 r) : CtO Tryz.prog 145 [.box 0 (IsLens.whole Rd)] [(0, .cell r)] (.v (chainV r)) [(0, .cell (chainR r))] := by
  have b0 := pk_bd hp (by omega) 7
  have c0 := b0.2 (by omega)
  refine Ct.intro Tryz.func145 rfl rfl ?_
  refine aS (aR ?_)
  refine oC (oA rfl (Conv.of rfl) rfl) ?_
  refine oN ?_
  refine aS (aR ?_)
  refine oC (op_bsl sl27 z143 (.nil _) rfl (by decide) rfl) ?_
  refine oC (op_asl rfl rfl rfl rfl) ?_
  refine oN ?_
  refine aS (aR ?_)
  refine oC (oA rfl (Conv.of rfl) rfl) ?_
  refine oN ?_
  refine aS (aS (aR ?_))
  refine oC (oM rfl (Conv.of rfl) rfl) ?_
  refine oC (oLO fb40 (.cons rfl (Conv.of rfl) (.cons rfl (Conv.of rfl) (.nil _))) (pick_ct r 7 (by unfold Far at hp; omega)) (olsk rfl ols0) (kK (by exact bC) k0) (kK (by exact bC) k0) rfl (argOb rfl rfl rfl (argOk' rfl rfl argO0)) (fun o ho => by cases ho) rfl) ?_
  refine oC (oA rfl (Conv.of rfl) rfl) ?_
  refine oN ?_
  refine aB ?_
  refine awp_loop' (fun n_ s => ∃ (k : Nat), ∃ (hk : n_ + k = (pk r 7).toNat), s = mkSt 30 [(0, .box 0 (IsLens.whole Rd)), (3, .v (OList.mk (chIter r k).2.1 true)), (4, .v (chIter r k).1), (5, .v (pk r 7 - (k : Int)))] [(0, .cell (chIter r k).2.2)]) ((pk r 7).toNat) ⟨0, by omega, rfl⟩ (Le.mk rfl (tlb rfl rfl rfl (tle rfl (by rfl) rfl (tle rfl (by rfl) rfl (tle rfl (by (show AV.v _ = AV.v _; congr 1; omega)) rfl tln)))) (olk (by rfl) (by exact bC) oln) (hU (a := [(0, .cell r)]) rfl)) ?_
  rintro n_ s ⟨k, hk, rfl⟩
  have hk6 : k ≤ 6 := by omega
  have hat := chIter_at hp (by omega) k (by omega)
  have hf0 : Far 800500 (chIter r k).2.2 := by rw [chIter_r]; exact hp.nx (by omega) (by omega)
  have hln := chIter_len r k
  refine aS (aS (aR ?_))
  refine oC (oM rfl (Conv.of rfl) rfl) ?_
  refine oC (op_gtr rfl rfl rfl) ?_
  refine oN ?_
  refine aC rfl (fun h => ?_) (fun h => ?_)
  · have hlt : (k : Int) < pk r 7 := by have := of_decide_eq_true h; omega
    generalize hs : chIter r k = s at hat hf0 hln
    have hf1 : Far 800501 (nx s.2.2 1) := hf0.nx (by omega) (by omega)
    have hf2 : Far 800502 (nx (nx s.2.2 1) 1) := hf1.nx (by omega) (by omega)
    have d0 := pk_bd hf0 (by omega) 6
    have d1 := pk_bd hf1 (by omega) 3
    have e0 := d0.2 (by omega)
    have e1 := d1.2 (by omega)
    have hq : IntKind.i64.wrap ((pk s.2.2 6).tdiv 5) = 0 ∨ IntKind.i64.wrap ((pk s.2.2 6).tdiv 5) = 1 := by
      have : (pk s.2.2 6).tdiv 5 = 0 ∨ (pk s.2.2 6).tdiv 5 = 1 := by
        rw [Int.tdiv_eq_ediv_of_nonneg d0.1]; omega
      rw [wrap_in (by omega)]; exact this
    have hm : 0 ≤ IntKind.i64.wrap ((pk s.2.2 6).tdiv 5) * pk (nx s.2.2 1) 3 ∧ IntKind.i64.wrap ((pk s.2.2 6).tdiv 5) * pk (nx s.2.2 1) 3 ≤ 2 := by
      rcases hq with hq | hq <;> rw [hq] <;> omega
    refine aW ?_
    refine aS (aB ?_)
    refine aS (aR ?_)
    refine oC (oM rfl (Conv.of rfl) rfl) ?_
    refine oC (oP rfl rfl rfl (by omega)) ?_
    refine oC (oM rfl (Conv.of rfl) rfl) ?_
    refine oC (oLO fb40 (.cons rfl (Conv.of rfl) (.cons rfl (Conv.of rfl) (.nil _))) (pick_ct s.2.2 6 (by unfold Far at hf0; omega)) (olsk rfl ols0) (kK (by exact bC) k0) (kK (by exact bC) k0) rfl (argOb rfl rfl rfl (argOk' rfl rfl argO0)) (fun o ho => by cases ho) rfl) ?_
    refine oC (op_quo rfl rfl rfl (by decide)) ?_
    refine oC (oM rfl (Conv.of rfl) rfl) ?_
    refine oC (oLO fb40 (.cons rfl (Conv.of rfl) (.cons rfl (Conv.of rfl) (.nil _))) (pick_ct (nx s.2.2 1) 3 (by unfold Far at hf1; omega)) (olsk rfl ols0) (kK (by exact bC) k0) (kK (by exact bC) k0) rfl (argOb rfl rfl rfl (argOk' rfl rfl argO0)) (fun o ho => by cases ho) rfl) ?_
    refine oC (op_mul rfl rfl rfl (by omega)) ?_
    refine oC (oP rfl rfl rfl (by omega)) ?_
    refine oC (oA rfl (Conv.of rfl) rfl) ?_
    refine oN ?_
    refine aR ?_
    refine oC (op_mvl rfl rfl rfl rfl) ?_
    refine oC (oM rfl (Conv.of rfl) rfl) ?_
    refine oC (oM rfl (Conv.of rfl) rfl) ?_
    refine oC (oLO fb39 (.cons rfl (Conv.of rfl) (.nil _)) (l71Pay_ct (nx (nx s.2.2 1) 1) (hf2.weak (by omega))) (olsk rfl ols0) (kK (by exact bC) k0) (kK (by exact bC) k0) rfl (argOb rfl rfl rfl argO0) (fun o ho => by cases ho) rfl) ?_
    refine oC (op_build (.cons f143_0 rfl (Conv.of rfl) (.cons f143_1 rfl (Conv.of rfl) (.nil _))) z143 rfl pl143 rfl) ?_
    refine oC (op_bsl sl27 z143 (.cons rfl (Conv.of rfl) (.nil _)) rfl (by decide) rfl) ?_
    refine oC (op_app sl27 z143 ul27 rfl rfl rfl (by (simp; omega)) (by (simp; omega)) rfl rfl) ?_
    refine oC (op_asl rfl rfl rfl rfl) ?_
    refine oN ?_
    refine aR ?_
    refine oC (oM rfl (Conv.of rfl) rfl) ?_
    refine oC (op_sub rfl rfl rfl (by omega)) ?_
    refine oC (oA rfl (Conv.of rfl) rfl) ?_
    refine oN ?_
    subst hs
    repeat first | refine nS ?_ | refine nB ?_
    exact ⟨n_ - 1, _, by omega, ⟨k + 1, by omega, rfl⟩, Le.mk rfl (tlb rfl rfl rfl (tle rfl (by (show AV.v _ = AV.v _; simp only [chIter, chStep, nx_nx]; rfl)) rfl (tle rfl (by rfl) rfl (tle rfl (by (show AV.v _ = AV.v _; congr 1; omega)) rfl tln)))) (olk (by (show Wt.Obj.cell _ = Wt.Obj.cell _; simp only [chIter, chStep, nx_nx]; rfl)) (by exact bC) oln) (hU (a := [(0, .cell r)]) rfl)⟩
  · refine aE ?_
    repeat refine ex_seq ?_
    refine eB ?_
    have hge : pk r 7 - (k : Int) ≤ 0 := by have := of_decide_eq_false h; omega
    have hk' : k = (pk r 7).toNat := by omega
    refine aS (aR ?_)
    refine oC (op_mvl rfl rfl rfl rfl) ?_
    refine oC (op_asl rfl rfl rfl rfl) ?_
    refine oN ?_
    refine aT ?_
    repeat first | refine rS ?_ | refine rB ?_
    subst hk'
    exact finO1 [(0, .cell (chainR r))] (.v rfl Conv.ol) (fun o ho => by cases ho) (olk rfl bC oln) (hK rfl) rfl
/-- What is drawn for a world. -/
abbrev ro (r : Rd) (w : Wrld) : List (Nat × Wt.Obj) := [(0, .cell r), (1, .arr (w.nodes.map sN))]
set_option maxHeartbeats 4000000 in
theorem l72Forge_ct (r : Rd) (w : Wrld) (hw : FineX w) (hp : Far 700000 r) : Ct Tryz.prog 165 [.box 0 (IsLens.whole Rd), .v (fW w)] (obs (ro r w)) (fun r1 h1 => ∃ (v : Vote) (r' : Rd), r1 = .v v ∧ h1 = obs (ro r' w) ∧ v.chain.length ≤ 100 ∧ r.p ≤ r'.p ∧ r'.p ≤ r.p + 100) := by
  have h4 := hw.four
  have hgl := hw.fine.log
  have hgll := hgl.len
  have hln : ((w.nodes.map sN).length : Int) = 4 := by simp [h4]
  refine Ct.intro Tryz.func165 rfl rfl ?_
  all_goals refine aS (aR ?_)
  all_goals refine oC (op_box (o := 5) ty26_WrldS rfl (Conv.of rfl) rfl rfl) ?_
  all_goals refine oC (oX (o := 6) z38 rfl rfl) ?_
  all_goals refine oN ?_
  all_goals refine aS (aR ?_)
  all_goals refine oC (oM rfl (Conv.of rfl) rfl) ?_
  all_goals refine oC (oLO fb145 (.cons rfl (Conv.of rfl) (.nil _)) (l71Chain_ct r (hp.weak (by omega))) (olsk rfl ols0) (kK (by exact bC) k0) (kK (by exact bC) k0) rfl (argOb rfl rfl rfl argO0) (fun o ho => by cases ho) rfl) ?_
  all_goals refine oC (oA rfl (Conv.of rfl) rfl) ?_
  all_goals refine oN ?_
  have hf1 := chainR_far hp (by omega)
  have hcl := chainV_len hp (by omega)
  have hr1 : r.p ≤ (chainR r).p ∧ (chainR r).p ≤ r.p + 31 := by
    have := (pk_bd hp (by omega) 7).2 (by omega)
    have := (pk_bd hp (by omega) 7).1
    rw [chainR_eq]; simp only [nx]; omega
  generalize chainR r = r1 at *
  generalize chainV r = c1 at *
  refine awp_seq_ex (ι := List Itm × Rd) (fun i => mkSt 54 [(0, .box 0 (IsLens.whole Rd)), (3, .box 5 (IsLens.whole WrldS)), (4, .box 6 (IsLens.whole Vote)), (5, .v i.1)] [(0, .cell i.2), (1, .arr (w.nodes.map sN)), (5, .cell (fW w)), (6, .cell Vote.zero)]) (fun i => i.1.length ≤ 50 ∧ r.p ≤ i.2.p ∧ i.2.p ≤ r.p + 40) ?_ ?_
  · have hk1 := pk_bd hf1 (by omega) 4
    all_goals refine aS (aR ?_)
    all_goals refine oC (oF f26_2_WrldS rfl rfl) ?_
    all_goals refine oC (op_ldl ty24_OListVote rfl rfl rfl) ?_
    all_goals refine oC (oE sl24 rfl rfl) ?_
    all_goals refine oC (op_gtr rfl rfl rfl) ?_
    all_goals refine oC (oM rfl (Conv.of rfl) rfl) ?_
    all_goals refine g_split (t := 13) rfl (fun h => ?_) (fun h => ?_)
    all_goals first | refine oC (gF rfl rfl rfl rfl rfl) ?_ | refine oC (gN rfl rfl rfl (oM rfl (Conv.of rfl) rfl)) ?_
    all_goals first | refine oC (gF rfl rfl rfl rfl rfl) ?_ | refine oC (gN rfl rfl rfl (oLO fb40 (.cons rfl (Conv.of rfl) (.cons rfl (Conv.of rfl) (.nil _))) (pick_ct r1 4 (by unfold Far at hf1; omega)) (olsk rfl ols0) (kK (by exact bC) k0) (kK (by exact bC) k0) rfl (argOb rfl rfl rfl (argOk' rfl rfl argO0)) (fun o ho => by cases ho) rfl)) ?_
    all_goals first | refine oC (gF rfl rfl rfl rfl rfl) ?_ | refine oC (gN rfl rfl rfl (op_gtr rfl rfl rfl)) ?_
    all_goals refine oC (oQ rfl rfl rfl rfl) ?_
    all_goals refine oN ?_
    · refine aC rfl (fun h2 => ?_) (fun h2 => ?_)
      · have hlg : 0 < w.log.length := by have := of_decide_eq_true h; simpa [fW] using this
        have hf2 : Far (700000 + 32) (nx r1 1) := hf1.nx (by omega) (by omega)
        have hk2 := pk_bd hf2 (by omega) (w.log.length : Int)
        have hk3 := hk2.2 (by omega)
        have hv : w.log[(pk (nx r1 1) (w.log.length : Int)).toNat]? = some (w.log[(pk (nx r1 1) (w.log.length : Int)).toNat]'(by omega)) := List.getElem?_eq_getElem (by omega)
        generalize hvv : w.log[(pk (nx r1 1) (w.log.length : Int)).toNat]'(by omega) = v at hv
        have hvo := hgl.ok v (List.mem_of_getElem? hv)
        have hvc := chainOk_len (voteOk_chain hvo)
        all_goals refine dS ?_
        all_goals refine dC (oF f26_2_WrldS rfl rfl) ?_
        all_goals refine dC (op_ldl ty24_OListVote rfl rfl rfl) ?_
        all_goals refine dC (oM rfl (Conv.of rfl) rfl) ?_
        all_goals refine dC (oF f26_2_WrldS rfl rfl) ?_
        all_goals refine dC (op_ldl ty24_OListVote rfl rfl rfl) ?_
        all_goals refine dC (oE sl24 rfl rfl) ?_
        all_goals refine dC (oLO fb40 (.cons rfl (Conv.of rfl) (.cons rfl (Conv.of rfl) (.nil _))) (pick_ct (nx r1 1) (w.log.length : Int) (by unfold Far at hf2; omega)) (olsk rfl ols0) (kK (by exact bC) k0) (kK (by exact bC) k0) rfl (argOb rfl rfl rfl (argOk' rfl rfl argO0)) (fun o ho => by cases ho) rfl) ?_
        all_goals refine dC (op_ix sl24 rfl rfl rfl hk2.1 hv) ?_
        all_goals refine dC (oFR f38_1 rfl rfl) ?_
        all_goals refine dC (oDR ty27 rfl rfl) ?_
        all_goals refine dC (oL fb107 (.cons rfl (Conv.of rfl) (.nil _)) (l1Copy_ct v.chain (by omega)) (aK rfl rfl aK0) rfl rfl) ?_
        all_goals refine dC (op_asl rfl rfl rfl rfl) ?_
        all_goals refine dr_nil mixed rfl ?_
        exact nS ⟨(v.chain, nx (nx r1 1) 1), ⟨by show v.chain.length ≤ 50; omega, by simp only [nx]; omega, by simp only [nx]; omega⟩, Le.mk rfl (tlb rfl rfl rfl (tlb rfl rfl rfl (tlb rfl rfl rfl (tlc rfl (Conv.ol) rfl tln)))) (olk rfl (by exact bC) (olk rfl (by exact bN) (olk rfl (by exact obOkS rfl) (olk rfl (by exact bC) oln)))) (hU (a := ro r w) rfl)⟩
      · refine aW ?_
        exact nS ⟨(c1, nx r1 1), ⟨by show c1.length ≤ 50; omega, by simp only [nx]; omega, by simp only [nx]; omega⟩, Le.mk rfl (tlb rfl rfl rfl (tlb rfl rfl rfl (tlb rfl rfl rfl (tle rfl (rfl) rfl tln)))) (olk rfl (by exact bC) (olk rfl (by exact bN) (olk rfl (by exact obOkS rfl) (olk rfl (by exact bC) oln)))) (hU (a := ro r w) rfl)⟩
    · refine aC rfl (fun h2 => absurd h2 (by decide)) (fun h2 => ?_)
      refine aW ?_
      exact nS ⟨(c1, r1), ⟨by show c1.length ≤ 50; omega, hr1.1, by show r1.p ≤ r.p + 40; omega⟩, Le.mk rfl (tlb rfl rfl rfl (tlb rfl rfl rfl (tlb rfl rfl rfl (tle rfl (rfl) rfl tln)))) (olk rfl (by exact bC) (olk rfl (by exact bN) (olk rfl (by exact obOkS rfl) (olk rfl (by exact bC) oln)))) (hU (a := ro r w) rfl)⟩
  · rintro ⟨c2, r2⟩ ⟨g1, g2, g3⟩
    simp only at g1 g2 g3 ⊢
    have hf2 : Far (700000 + 40) r2 := by unfold Far at hp ⊢; omega
    refine awp_seq_ex (ι := List Itm × Rd) (fun i => mkSt 54 [(0, .box 0 (IsLens.whole Rd)), (3, .box 5 (IsLens.whole WrldS)), (4, .box 6 (IsLens.whole Vote)), (5, .v i.1)] [(0, .cell i.2), (1, .arr (w.nodes.map sN)), (5, .cell (fW w)), (6, .cell Vote.zero)]) (fun i => i.1.length ≤ 60 ∧ r.p ≤ i.2.p ∧ i.2.p ≤ r.p + 50) ?_ ?_
    · all_goals refine aS (aR ?_)
      all_goals refine oC (oM rfl (Conv.of rfl) rfl) ?_
      all_goals refine oC (oLO fb40 (.cons rfl (Conv.of rfl) (.cons rfl (Conv.of rfl) (.nil _))) (pick_ct r2 2 (by unfold Far at hf2; omega)) (olsk rfl ols0) (kK (by exact bC) k0) (kK (by exact bC) k0) rfl (argOb rfl rfl rfl (argOk' rfl rfl argO0)) (fun o ho => by cases ho) rfl) ?_
      all_goals refine oC (op_eql rfl rfl rfl) ?_
      all_goals refine oN ?_
      refine aC rfl (fun h2 => ?_) (fun h2 => ?_)
      · have hf3 : Far (700000 + 41) (nx r2 1) := hf2.nx (by omega) (by omega)
        have hf4 : Far (700000 + 42) (nx (nx r2 1) 1) := hf3.nx (by omega) (by omega)
        have hk2 := pk_bd hf3 (by omega) 4
        have hk3 := hk2.2 (by omega)
        have hlt : (pk (nx r2 1) 4).toNat < w.nodes.length := by omega
        have hx : w.nodes[(pk (nx r2 1) 4).toNat]? = some w.nodes[(pk (nx r2 1) 4).toNat] := List.getElem?_eq_getElem hlt
        generalize hnn : w.nodes[(pk (nx r2 1) 4).toNat] = n at hx
        have hx' : (w.nodes.map sN)[(pk (nx r2 1) 4).toNat]? = some (sN n) := by rw [List.getElem?_map, hx]; rfl
        have hgd := hw.fine.seen n (List.mem_of_getElem? hx)
        have htip := hgd.tipS
        all_goals refine aS (dS ?_)
        all_goals refine dC (oF f26_1_WrldS rfl rfl) ?_
        all_goals refine dC (oD ty23_NRef rfl rfl rfl) ?_
        all_goals refine dC (oM rfl (Conv.of rfl) rfl) ?_
        all_goals refine dC (oLO fb40 (.cons rfl (Conv.of rfl) (.cons rfl (Conv.of rfl) (.nil _))) (pick_ct (nx r2 1) 4 (by unfold Far at hf3; omega)) (olsk rfl ols0) (kK (by exact bC) k0) (kK (by exact bC) k0) rfl (argOb rfl rfl rfl (argOk' rfl rfl argO0)) (fun o ho => by cases ho) rfl) ?_
        all_goals refine dC (op_ixA sl23_NodS rfl rfl rfl rfl ⟨hk2.1, by omega⟩) ?_
        all_goals refine dC (op_ldde ty90_NodS rfl rfl hx' rfl) ?_
        all_goals refine dC (oX (o := 7) z90_NodS rfl rfl) ?_
        all_goals refine dC (op_st ty90_NodS rfl rfl (Conv.of rfl) rfl) ?_
        all_goals refine dr_nil mixed rfl ?_
        all_goals refine dS ?_
        all_goals refine dC (oF f90_3_NodS rfl rfl) ?_
        all_goals refine dC (op_ldl ty24_OListVote rfl rfl rfl) ?_
        all_goals refine dC (oL fb161 (.cons rfl (Conv.of rfl) (.nil _)) (l11Tip_ct n.seen hgd.l hgd.v) (aK rfl rfl aK0) rfl rfl) ?_
        all_goals refine dC (oL fb107 (.cons rfl (Conv.of rfl) (.nil _)) (l1Copy_ct (tipOfS n.seen) (by omega)) (aK rfl rfl aK0) rfl rfl) ?_
        all_goals refine dC (oF f26_0_WrldS rfl rfl) ?_
        all_goals refine dC (oD ty3 rfl rfl rfl) ?_
        all_goals refine dC (op_max rfl rfl rfl) ?_
        all_goals refine dC (oM rfl (Conv.of rfl) rfl) ?_
        all_goals refine dC (oLO fb39 (.cons rfl (Conv.of rfl) (.nil _)) (l71Pay_ct (nx (nx r2 1) 1) (hf4.weak (by omega))) (olsk rfl ols0) (kK (by exact bC) k0) (kK (by exact bC) k0) rfl (argOb rfl rfl rfl argO0) (fun o ho => by cases ho) rfl) ?_
        all_goals refine dC (op_build (.cons f143_0 rfl (Conv.of rfl) (.cons f143_1 rfl (Conv.of rfl) (.nil _))) z143 rfl pl143 rfl) ?_
        all_goals refine dC (op_bsl sl27 z143 (.cons rfl (Conv.of rfl) (.nil _)) rfl (by decide) rfl) ?_
        all_goals refine dC (op_app sl27 z143 ul27 rfl rfl rfl (by (simp; omega)) (by (simp; omega)) rfl rfl) ?_
        all_goals refine dC (op_asl rfl rfl rfl rfl) ?_
        all_goals refine dr_nil mixed rfl ?_
        exact nS ⟨(tipOfS n.seen ++ [⟨max w.epoch 1, payV (nx (nx r2 1) 1)⟩], nx (nx (nx r2 1) 1) 3), ⟨by simp; omega, by simp only [nx]; omega, by simp only [nx]; omega⟩, Le.mk rfl (tlb rfl rfl rfl (tlb rfl rfl rfl (tlb rfl rfl rfl (tlc rfl (Conv.ol) rfl tln)))) (olk rfl (by exact bC) (olk rfl (by exact bN) (olk rfl (by exact obOkS rfl) (olk rfl (by exact bC) oln)))) (hU (a := ro r w) rfl)⟩
      · refine aW ?_
        exact nS ⟨(c2, nx r2 1), ⟨by show c2.length ≤ 60; omega, by simp only [nx]; omega, by simp only [nx]; omega⟩, Le.mk rfl (tlb rfl rfl rfl (tlb rfl rfl rfl (tlb rfl rfl rfl (tle rfl (rfl) rfl tln)))) (olk rfl (by exact bC) (olk rfl (by exact bN) (olk rfl (by exact obOkS rfl) (olk rfl (by exact bC) oln)))) (hU (a := ro r w) rfl)⟩
    · rintro ⟨c3, r3⟩ ⟨k1, k2, k3⟩
      simp only at k1 k2 k3 ⊢
      all_goals refine aS (aR ?_)
      all_goals refine oC (oF f26_3_WrldS rfl rfl) ?_
      all_goals refine oC (oD ty3 rfl rfl rfl) ?_
      all_goals refine oC (oM rfl (Conv.of rfl) rfl) ?_
      all_goals refine oC (op_build (.cons f38_0 rfl (Conv.of rfl) (.cons f38_1 rfl (Conv.of rfl) (.nil _))) z38 rfl pl38 rfl) ?_
      all_goals refine oC (op_st ty38 rfl rfl (Conv.of rfl) rfl) ?_
      all_goals refine oN ?_
      refine aT ?_
      repeat first | refine rS ?_ | refine rB ?_
      refine ⟨_, _, res1 (ol := ro r3 w) (.rc ty38 rfl rfl) (fun o ho => by cases ho) (olk rfl bC (olk rfl bN oln)) (hK rfl), _, r3, rfl, rfl, ?_, k2, by omega⟩
      show c3.length ≤ 100
      omega
end Go.Proofs.YtmhmeppocbcmeaaGreat

/- The reference: draws of events. -/
set_option linter.unusedVariables false
set_option linter.unusedSimpArgs false
namespace Go.Proofs.YtmhmeppocbcmeaaGreat
open Go Go.Wt
set_option maxHeartbeats 4000000 in
theorem l72Event_ct (r : Rd) (w : Wrld) (hw : FineX w) (hp : Far 600000 r) : Ct Tryz.prog 141 [.box 0 (IsLens.whole Rd), .v (fW w)] (obs (ro r w)) (fun r1 h1 => ∃ (e : Evt) (r' : Rd), r1 = .v e ∧ h1 = obs (ro r' w) ∧ r.p ≤ r'.p ∧ r'.p ≤ r.p + 120) := by
  have hep := hw.ep
  have hgll := hw.ll
  have hb8 := pk_bd hp (by omega) 8
  refine Ct.intro Tryz.func141 rfl rfl ?_
  all_goals refine aS (aR ?_)
  all_goals refine oC (op_box (o := 5) ty26_WrldS rfl (Conv.of rfl) rfl rfl) ?_
  all_goals refine oC (oX (o := 6) z77 rfl rfl) ?_
  all_goals refine oN ?_
  all_goals refine aS (aR ?_)
  all_goals refine oC (oF f26_2_WrldS rfl rfl) ?_
  all_goals refine oC (op_ldl ty24_OListVote rfl rfl rfl) ?_
  all_goals refine oC (oE sl24 rfl rfl) ?_
  all_goals refine oC (oA rfl (Conv.of rfl) rfl) ?_
  all_goals refine oN ?_
  refine awp_seq_ex (ι := Rd) (fun i => mkSt 64 [(0, .box 0 (IsLens.whole Rd)), (3, .box 5 (IsLens.whole WrldS)), (4, .box 6 (IsLens.whole Evt))] [(0, .cell i), (1, .arr (w.nodes.map sN)), (5, .cell (fW w)), (6, .cell Evt.zero)]) (fun i => r.p ≤ i.p ∧ i.p ≤ r.p + 1) ?_ ?_
  · all_goals refine aS (aR ?_)
    all_goals refine oC (oM rfl (Conv.of rfl) rfl) ?_
    all_goals refine oC (op_gtr rfl rfl rfl) ?_
    all_goals refine oC (oM rfl (Conv.of rfl) rfl) ?_
    all_goals refine g_split (t := 12) rfl (fun h => ?_) (fun h => ?_)
    all_goals first | refine oC (gF rfl rfl rfl rfl rfl) ?_ | refine oC (gN rfl rfl rfl (oM rfl (Conv.of rfl) rfl)) ?_
    all_goals first | refine oC (gF rfl rfl rfl rfl rfl) ?_ | refine oC (gN rfl rfl rfl (oLO fb40 (.cons rfl (Conv.of rfl) (.cons rfl (Conv.of rfl) (.nil _))) (pick_ct r 8 (by unfold Far at hp; omega)) (olsk rfl ols0) (kK (by exact bC) k0) (kK (by exact bC) k0) rfl (argOb rfl rfl rfl (argOk' rfl rfl argO0)) (fun o ho => by cases ho) rfl)) ?_
    all_goals first | refine oC (gF rfl rfl rfl rfl rfl) ?_ | refine oC (gN rfl rfl rfl (oLt rfl rfl rfl)) ?_
    all_goals refine oC (oQ rfl rfl rfl rfl) ?_
    all_goals refine oN ?_
    · refine aC rfl (fun h2 => ?_) (fun h2 => ?_)
      · have hlg : 0 < w.log.length := by have := of_decide_eq_true h; simpa [fW] using this
        have hf1 : Far 600001 (nx r 1) := hp.nx (by omega) (by omega)
        have hf2 : Far 600002 (nx (nx r 1) 1) := hf1.nx (by omega) (by omega)
        have hf3 : Far 600003 (nx (nx (nx r 1) 1) 1) := hf2.nx (by omega) (by omega)
        have k1 := pk_bd hf1 (by omega) (min (w.log.length : Int) 6)
        have k2 := k1.2 (by omega)
        have k3 := pk_bd hf3 (by omega) (w.log.length : Int)
        have k4 := k3.2 (by omega)
        all_goals refine aS (aR ?_)
        all_goals refine oC (oM rfl (Conv.of rfl) rfl) ?_
        all_goals refine oC (op_sub rfl rfl rfl (by (simp only [fW]; omega))) ?_
        all_goals refine oC (oM rfl (Conv.of rfl) rfl) ?_
        all_goals refine oC (oM rfl (Conv.of rfl) rfl) ?_
        all_goals refine oC (op_min rfl rfl rfl) ?_
        all_goals refine oC (oLO fb40 (.cons rfl (Conv.of rfl) (.cons rfl (Conv.of rfl) (.nil _))) (pick_ct (nx r 1) (min (w.log.length : Int) 6) (by unfold Far at hf1; omega)) (olsk rfl ols0) (kK (by exact bC) k0) (kK (by exact bC) k0) rfl (argOb rfl rfl rfl (argOk' rfl rfl argO0)) (fun o ho => by cases ho) rfl) ?_
        all_goals refine oC (op_sub rfl rfl rfl (by (simp only [fW]; omega))) ?_
        all_goals refine oC (oA rfl (Conv.of rfl) rfl) ?_
        all_goals refine oN ?_
        refine awp_seq_ex (ι := Int × Rd) (fun i => mkSt 64 [(0, .box 0 (IsLens.whole Rd)), (3, .box 5 (IsLens.whole WrldS)), (4, .box 6 (IsLens.whole Evt)), (6, .v i.1)] [(0, .cell i.2), (1, .arr (w.nodes.map sN)), (5, .cell (fW w)), (6, .cell Evt.zero)]) (fun i => r.p ≤ i.2.p ∧ i.2.p ≤ r.p + 4) ?_ ?_
        · all_goals refine aS (aR ?_)
          all_goals refine oC (oM rfl (Conv.of rfl) rfl) ?_
          all_goals refine oC (oLO fb40 (.cons rfl (Conv.of rfl) (.cons rfl (Conv.of rfl) (.nil _))) (pick_ct (nx (nx r 1) 1) 4 (by unfold Far at hf2; omega)) (olsk rfl ols0) (kK (by exact bC) k0) (kK (by exact bC) k0) rfl (argOb rfl rfl rfl (argOk' rfl rfl argO0)) (fun o ho => by cases ho) rfl) ?_
          all_goals refine oC (op_eql rfl rfl rfl) ?_
          all_goals refine oN ?_
          refine aC rfl (fun h2 => ?_) (fun h2 => ?_)
          · all_goals refine aR ?_
            all_goals refine oC (oM rfl (Conv.of rfl) rfl) ?_
            all_goals refine oC (oM rfl (Conv.of rfl) rfl) ?_
            all_goals refine oC (oLO fb40 (.cons rfl (Conv.of rfl) (.cons rfl (Conv.of rfl) (.nil _))) (pick_ct (nx (nx (nx r 1) 1) 1) (w.log.length : Int) (by unfold Far at hf3; omega)) (olsk rfl ols0) (kK (by exact bC) k0) (kK (by exact bC) k0) rfl (argOb rfl rfl rfl (argOk' rfl rfl argO0)) (fun o ho => by cases ho) rfl) ?_
            all_goals refine oC (oA rfl (Conv.of rfl) rfl) ?_
            all_goals refine oN ?_
            exact nS ⟨(_, nx (nx (nx (nx r 1) 1) 1) 1), ⟨by simp only [nx]; omega, by simp only [nx]; omega⟩, Le.mk rfl (tlb rfl rfl rfl (tlb rfl rfl rfl (tlb rfl rfl rfl (tle rfl (rfl) rfl tln)))) (olk rfl (by exact bC) (olk rfl (by exact bN) (olk rfl (by exact obOkS rfl) (olk rfl (by exact bC) oln)))) (hU (a := ro r w) rfl)⟩
          · refine aW ?_
            exact nS ⟨(_, nx (nx (nx r 1) 1) 1), ⟨by simp only [nx]; omega, by simp only [nx]; omega⟩, Le.mk rfl (tlb rfl rfl rfl (tlb rfl rfl rfl (tlb rfl rfl rfl (tle rfl (rfl) rfl tln)))) (olk rfl (by exact bC) (olk rfl (by exact bN) (olk rfl (by exact obOkS rfl) (olk rfl (by exact bC) oln)))) (hU (a := ro r w) rfl)⟩
        · rintro ⟨a, r2⟩ ⟨g1, g2⟩
          simp only at g1 g2 ⊢
          have hf4 : Far 600005 r2 := by unfold Far at hp ⊢; omega
          have k5 := pk_bd hf4 (by omega) 4
          have k6 := k5.2 (by omega)
          all_goals refine aS (aR ?_)
          all_goals refine oC (oM rfl (Conv.of rfl) rfl) ?_
          all_goals refine oC (oM rfl (Conv.of rfl) rfl) ?_
          all_goals refine oC (oLO fb40 (.cons rfl (Conv.of rfl) (.cons rfl (Conv.of rfl) (.nil _))) (pick_ct r2 4 (by unfold Far at hf4; omega)) (olsk rfl ols0) (kK (by exact bC) k0) (kK (by exact bC) k0) rfl (argOb rfl rfl rfl (argOk' rfl rfl argO0)) (fun o ho => by cases ho) rfl) ?_
          all_goals refine oC (oP rfl rfl rfl (by omega)) ?_
          all_goals refine oC (op_build (.cons f77_0 rfl (Conv.of rfl) (.cons f77_1 rfl (Conv.of rfl) (.cons f77_2 rfl (Conv.of rfl) (.nil _)))) z77 rfl pl77 rfl) ?_
          all_goals refine oC (op_st ty77 rfl rfl (Conv.of rfl) rfl) ?_
          all_goals refine oN ?_
          refine aT ?_
          repeat first | refine rS ?_ | refine rB ?_
          refine ⟨_, _, res1 (ol := ro (nx r2 1) w) (.rc ty77 rfl rfl) (fun o ho => by cases ho) (olk rfl bC (olk rfl bN oln)) (hK rfl), _, nx r2 1, rfl, rfl, by simp only [nx]; omega, by simp only [nx]; omega⟩
      · refine aW ?_
        exact nS ⟨nx r 1, ⟨by simp only [nx]; omega, by simp only [nx]; omega⟩, Le.mk rfl (tlb rfl rfl rfl (tlb rfl rfl rfl (tlb rfl rfl rfl tln))) (olk rfl (by exact bC) (olk rfl (by exact bN) (olk rfl (by exact obOkS rfl) (olk rfl (by exact bC) oln)))) (hU (a := ro r w) rfl)⟩
    · refine aC rfl (fun h2 => absurd h2 (by decide)) (fun h2 => ?_)
      refine aW ?_
      exact nS ⟨r, ⟨by omega, by omega⟩, Le.mk rfl (tlb rfl rfl rfl (tlb rfl rfl rfl (tlb rfl rfl rfl tln))) (olk rfl (by exact bC) (olk rfl (by exact bN) (olk rfl (by exact obOkS rfl) (olk rfl (by exact bC) oln)))) (hU (a := ro r w) rfl)⟩
  · rintro r2 ⟨g1, g2⟩
    have hf2 : Far 600001 r2 := by unfold Far at hp ⊢; omega
    have k5 := pk_bd hf2 (by omega) 8
    have k6 := k5.2 (by omega)
    have hf3 : Far 600002 (nx r2 1) := hf2.nx (by omega) (by omega)
    have hf4 : Far 600003 (nx (nx r2 1) 1) := hf3.nx (by omega) (by omega)
    have k7 := pk_bd hf3 (by omega) 4
    have k8 := k7.2 (by omega)
    all_goals refine aS (aS (aR ?_))
    all_goals refine oC (oM rfl (Conv.of rfl) rfl) ?_
    all_goals refine oC (oLO fb40 (.cons rfl (Conv.of rfl) (.cons rfl (Conv.of rfl) (.nil _))) (pick_ct r2 8 (by unfold Far at hf2; omega)) (olsk rfl ols0) (kK (by exact bC) k0) (kK (by exact bC) k0) rfl (argOb rfl rfl rfl (argOk' rfl rfl argO0)) (fun o ho => by cases ho) rfl) ?_
    all_goals refine oN ?_
    generalize pk r2 8 = k at k5 k6 ⊢
    refine aB ?_
    all_goals refine aS (aS (aR ?_))
    all_goals refine oC (op_eql rfl rfl rfl) ?_
    all_goals refine oC (oA rfl (Conv.of rfl) rfl) ?_
    all_goals refine oN ?_
    refine nS ?_
    refine awp_to (s' := mkSt 64 [(0, .box 0 (IsLens.whole Rd)), (3, .box 5 (IsLens.whole WrldS)), (4, .box 6 (IsLens.whole Evt)), (36, .v k), (37, .v (decide (k = 0) || decide (k = 1)))] [(0, .cell (nx r2 1)), (1, .arr (w.nodes.map sN)), (5, .cell (fW w)), (6, .cell Evt.zero)]) ?_ ?_
    · refine aC rfl (fun h2 => ?_) (fun h2 => ?_)
      · refine aW ?_
        all_goals exact Le.mk rfl (tlb rfl rfl rfl (tlb rfl rfl rfl (tlb rfl rfl rfl (tle rfl (rfl) rfl (tle rfl (by (simp_all; try rfl)) rfl tln))))) (olk rfl (by exact bC) (olk rfl (by exact bN) (olk rfl (by exact obOkS rfl) (olk rfl (by exact bC) oln)))) (hU (a := ro r w) rfl)
      · all_goals refine aR ?_
        all_goals refine oC (op_eql rfl rfl rfl) ?_
        all_goals refine oC (oA rfl (Conv.of rfl) rfl) ?_
        all_goals refine oN ?_
        all_goals exact Le.mk rfl (tlb rfl rfl rfl (tlb rfl rfl rfl (tlb rfl rfl rfl (tle rfl (rfl) rfl (tle rfl (by (simp_all; try rfl)) rfl tln))))) (olk rfl (by exact bC) (olk rfl (by exact bN) (olk rfl (by exact obOkS rfl) (olk rfl (by exact bC) oln)))) (hU (a := ro r w) rfl)
    · refine aC rfl (fun h2 => ?_) (fun h2 => ?_)
      · all_goals refine aS (aR ?_)
        all_goals refine oC (op_build (.cons f77_0 rfl (Conv.of rfl) (.nil _)) z77 rfl pl77 rfl) ?_
        all_goals refine oC (op_st ty77 rfl rfl (Conv.of rfl) rfl) ?_
        all_goals refine oN ?_
        refine aT ?_
        repeat first | refine rS ?_ | refine rB ?_
        refine ⟨_, _, res1 (ol := ro (nx r2 1) w) (.rc ty77 rfl rfl) (fun o ho => by cases ho) (olk rfl bC (olk rfl bN oln)) (hK rfl), _, nx r2 1, rfl, rfl, by simp only [nx]; omega, by simp only [nx]; omega⟩
      · all_goals refine aS (aS (aR ?_))
        all_goals refine oC (op_eql rfl rfl rfl) ?_
        all_goals refine oC (oA rfl (Conv.of rfl) rfl) ?_
        all_goals refine oN ?_
        refine nS ?_
        refine awp_to (s' := mkSt 64 [(0, .box 0 (IsLens.whole Rd)), (3, .box 5 (IsLens.whole WrldS)), (4, .box 6 (IsLens.whole Evt)), (36, .v k), (41, .v (decide (k = 2) || (decide (k = 3) || decide (k = 4))))] [(0, .cell (nx r2 1)), (1, .arr (w.nodes.map sN)), (5, .cell (fW w)), (6, .cell Evt.zero)]) ?_ ?_
        · refine aC rfl (fun h3 => ?_) (fun h3 => ?_)
          · refine aW ?_
            all_goals exact Le.mk rfl (tlb rfl rfl rfl (tlb rfl rfl rfl (tlb rfl rfl rfl (tle rfl (rfl) rfl (tle rfl (by (simp_all; try rfl)) rfl tln))))) (olk rfl (by exact bC) (olk rfl (by exact bN) (olk rfl (by exact obOkS rfl) (olk rfl (by exact bC) oln)))) (hU (a := ro r w) rfl)
          · all_goals refine aS (aR ?_)
            all_goals refine oC (op_eql rfl rfl rfl) ?_
            all_goals refine oC (oA rfl (Conv.of rfl) rfl) ?_
            all_goals refine oN ?_
            refine aC rfl (fun h4 => ?_) (fun h4 => ?_)
            · refine aW ?_
              all_goals exact Le.mk rfl (tlb rfl rfl rfl (tlb rfl rfl rfl (tlb rfl rfl rfl (tle rfl (rfl) rfl (tle rfl (by (simp_all; try rfl)) rfl tln))))) (olk rfl (by exact bC) (olk rfl (by exact bN) (olk rfl (by exact obOkS rfl) (olk rfl (by exact bC) oln)))) (hU (a := ro r w) rfl)
            · all_goals refine aR ?_
              all_goals refine oC (op_eql rfl rfl rfl) ?_
              all_goals refine oC (oA rfl (Conv.of rfl) rfl) ?_
              all_goals refine oN ?_
              all_goals exact Le.mk rfl (tlb rfl rfl rfl (tlb rfl rfl rfl (tlb rfl rfl rfl (tle rfl (rfl) rfl (tle rfl (by (simp_all; try rfl)) rfl tln))))) (olk rfl (by exact bC) (olk rfl (by exact bN) (olk rfl (by exact obOkS rfl) (olk rfl (by exact bC) oln)))) (hU (a := ro r w) rfl)
        · refine aC rfl (fun h3 => ?_) (fun h3 => ?_)
          · all_goals refine aS (aR ?_)
            all_goals refine oC (oF f26_0_WrldS rfl rfl) ?_
            all_goals refine oC (oD ty3 rfl rfl rfl) ?_
            all_goals refine oC (op_max rfl rfl rfl) ?_
            all_goals refine oC (oL fb80 (.cons rfl (Conv.of rfl) (.nil _)) (l3Leader_ct _ (by show -1000 ≤ max w.epoch 1 ∧ max w.epoch 1 ≤ 1000000; omega)) (aK rfl rfl aK0) rfl rfl) ?_
            all_goals refine oC (oM rfl (Conv.of rfl) rfl) ?_
            all_goals refine oC (oLO fb39 (.cons rfl (Conv.of rfl) (.nil _)) (l71Pay_ct (nx r2 1) (hf3.weak (by omega))) (olsk rfl ols0) (kK (by exact bC) k0) (kK (by exact bC) k0) rfl (argOb rfl rfl rfl argO0) (fun o ho => by cases ho) rfl) ?_
            all_goals refine oC (op_build (.cons f77_0 rfl (Conv.of rfl) (.cons f77_1 rfl (Conv.of rfl) (.cons f77_3 rfl (Conv.of rfl) (.nil _)))) z77 rfl pl77 rfl) ?_
            all_goals refine oC (op_st ty77 rfl rfl (Conv.of rfl) rfl) ?_
            all_goals refine oN ?_
            refine aT ?_
            repeat first | refine rS ?_ | refine rB ?_
            refine ⟨_, _, res1 (ol := ro (nx (nx r2 1) 3) w) (.rc ty77 rfl rfl) (fun o ho => by cases ho) (olk rfl bC (olk rfl bN oln)) (hK rfl), _, nx (nx r2 1) 3, rfl, rfl, by simp only [nx]; omega, by simp only [nx]; omega⟩
          · all_goals refine aS (aR ?_)
            all_goals refine oC (op_eql rfl rfl rfl) ?_
            all_goals refine oC (oA rfl (Conv.of rfl) rfl) ?_
            all_goals refine oN ?_
            refine aC rfl (fun h4 => ?_) (fun h4 => ?_)
            · all_goals refine aS (aR ?_)
              all_goals refine oC (oM rfl (Conv.of rfl) rfl) ?_
              all_goals refine oC (oLO fb40 (.cons rfl (Conv.of rfl) (.cons rfl (Conv.of rfl) (.nil _))) (pick_ct (nx r2 1) 4 (by unfold Far at hf3; omega)) (olsk rfl ols0) (kK (by exact bC) k0) (kK (by exact bC) k0) rfl (argOb rfl rfl rfl (argOk' rfl rfl argO0)) (fun o ho => by cases ho) rfl) ?_
              all_goals refine oC (oP rfl rfl rfl (by omega)) ?_
              all_goals refine oC (oM rfl (Conv.of rfl) rfl) ?_
              all_goals refine oC (oLO fb39 (.cons rfl (Conv.of rfl) (.nil _)) (l71Pay_ct (nx (nx r2 1) 1) (hf4.weak (by omega))) (olsk rfl ols0) (kK (by exact bC) k0) (kK (by exact bC) k0) rfl (argOb rfl rfl rfl argO0) (fun o ho => by cases ho) rfl) ?_
              all_goals refine oC (op_build (.cons f77_0 rfl (Conv.of rfl) (.cons f77_1 rfl (Conv.of rfl) (.cons f77_3 rfl (Conv.of rfl) (.nil _)))) z77 rfl pl77 rfl) ?_
              all_goals refine oC (op_st ty77 rfl rfl (Conv.of rfl) rfl) ?_
              all_goals refine oN ?_
              refine aT ?_
              repeat first | refine rS ?_ | refine rB ?_
              refine ⟨_, _, res1 (ol := ro (nx (nx (nx r2 1) 1) 3) w) (.rc ty77 rfl rfl) (fun o ho => by cases ho) (olk rfl bC (olk rfl bN oln)) (hK rfl), _, nx (nx (nx r2 1) 1) 3, rfl, rfl, by simp only [nx]; omega, by simp only [nx]; omega⟩
            · refine aW ?_
              repeat first | refine nS ?_ | refine nB ?_
              all_goals refine aS (aR ?_)
              all_goals refine oC (oM rfl (Conv.of rfl) rfl) ?_
              all_goals refine oC (op_ldd ty26_WrldS rfl rfl rfl) ?_
              refine awpOps_callE (ι := Vote × Rd) (ro (nx r2 1) w) (fun i => .v i.1) (fun i => ro i.2 w) (fun i => i.1.chain.length ≤ 100 ∧ (nx r2 1).p ≤ i.2.p ∧ i.2.p ≤ (nx r2 1).p + 100) rfl fb165 (.cons rfl (Conv.of rfl) (.cons rfl (Conv.of rfl) (.nil _))) (l72Forge_ct (nx r2 1) w hw (hf3.weak (by omega))) (fun r h' ⟨v, r', e1, e2, e3, e4, e5⟩ => ⟨(v, r'), e1, e2, e3, e4, e5⟩) (olsk rfl (olsk rfl ols0)) (kK bC (kK bN k0)) (argOb rfl rfl rfl (argOb rfl rfl rfl argO0)) rfl (fun i => rfl) (fun i => kK bC (kK bN k0)) (fun i o ho => by cases ho) ?_
              rintro ⟨v, r3⟩ ⟨q1, q2, q3⟩
              simp only [nx] at q1 q2 q3 ⊢
              all_goals refine oC (op_build (.cons f77_0 rfl (Conv.of rfl) (.cons f77_4 rfl (Conv.of rfl) (.nil _))) z77 rfl pl77 rfl) ?_
              all_goals refine oC (op_st ty77 rfl rfl (Conv.of rfl) rfl) ?_
              all_goals refine oN ?_
              refine aT ?_
              repeat first | refine rS ?_ | refine rB ?_
              refine ⟨_, _, res1 (ol := ro r3 w) (.rc ty77 rfl rfl) (fun o ho => by cases ho) (olk rfl bC (olk rfl bN oln)) (hK rfl), _, r3, rfl, rfl, by omega, by omega⟩
end Go.Proofs.YtmhmeppocbcmeaaGreat
