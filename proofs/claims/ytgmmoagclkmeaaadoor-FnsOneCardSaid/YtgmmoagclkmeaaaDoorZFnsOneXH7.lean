-- cut down by bundle.py (the session's own program) from the texts YtgmmoagclkmeaaaDoorXH7, YtgmmoagclkmeaaaDoorXH8, to what this claim names
import Derived.Test.YtgmmoagclkmeaaaDoorZFnsOneXH0
section
-- laid by xprint.py (the session's own program) out of the translation; Lean checks it
namespace Go.Proofs.YtgmmoagclkmeaaaDoor.XH
open Go.RowKit Go.Proofs.YtgmmoagclkmeaaaDoorW.PrintWords Go.Proofs.YtgmmoagclkmeaaaDoorW.PrintLast Go.Proofs.YtgmmoagclkmeaaaDoorW.PrintMore
attribute [local go_sem] max2_int min2_int max_two min_two max_three min_three max_four min_four   -- for this text's walks alone
set_option linter.unusedVariables false
set_option linter.unusedSimpArgs false

mutual
def spinneyref01_utf.j2:Nat→ByteArray→Int→Int→Int→Int→Int→Option (Int)
 | 0,_,_,_,_,_,_ => none
 | k+1,x0,x1,x5,x6,x7,x8 => if x5=224 then (spinneyref01_utf.j3 k x0 x1 x6 160 x8) else (if x5=237 then (spinneyref01_utf.j3 k x0 x1 x6 x7 159) else (if x5=240 then (spinneyref01_utf.j3 k x0 x1 x6 144 x8) else (if x5=244 then (spinneyref01_utf.j3 k x0 x1 x6 x7 143) else (spinneyref01_utf.j3 k x0 x1 x6 x7 x8))))
def spinneyref01_utf.j3:Nat→ByteArray→Int→Int→Int→Int→Option (Int)
 | 0,_,_,_,_,_ => none
 | k+1,x0,x1,x6,x7,x8 => if (wrap64 (x1+x6)) > (x0.size:Int) then (spinneyref01_utf.j4 k x0 x1 x6 true) else (if 0≤(wrap64 (x1+1)) then (if (wrap64 (x1+1)) < (x0.size:Int) then (if (bt x0 (wrap64 (x1+1))) < x7 then (spinneyref01_utf.j4 k x0 x1 x6 true) else (spinneyref01_utf.j4 k x0 x1 x6 (decide ((bt x0 (wrap64 (x1+1))) > x8)))) else (none)) else (none))
def spinneyref01_utf.j4:Nat→ByteArray→Int→Int→Bool→Option (Int)
 | 0,_,_,_,_ => none
 | k+1,x0,x1,x6,x67 => if x67=true then (some 0) else (spinneyref01_utf.l0 k x0 x1 x6 2)
def spinneyref01_utf.l0:Nat→ByteArray→Int→Int→Int→Option (Int)
 | 0,_,_,_,_ => none
 | k+1,x0,x1,x6,x9 => if x9 < x6 then (if 0≤(wrap64 (x1+x9)) then (if (wrap64 (x1+x9)) < (x0.size:Int) then (if (bt x0 (wrap64 (x1+x9))) < 128 then (some 0) else (if (bt x0 (wrap64 (x1+x9))) > 191 then (some 0) else (spinneyref01_utf.l0 k x0 x1 x6 (wrap64 (x9+1))))) else (none)) else (none)) else (some x6)
def spinneyref01_utf.j0:Nat→ByteArray→Int→Int→Int→Int→Bool→Option (Int)
 | 0,_,_,_,_,_,_ => none
 | k+1,x0,x1,x5,x7,x8,x16 => if x16=true then (spinneyref01_utf.j2 k x0 x1 x5 2 x7 x8) else (if x5 ≥ 224 then (spinneyref01_utf.j1 k x0 x1 x5 x7 x8 (decide (x5≤239))) else (spinneyref01_utf.j1 k x0 x1 x5 x7 x8 false))
def spinneyref01_utf.j1:Nat→ByteArray→Int→Int→Int→Int→Bool→Option (Int)
 | 0,_,_,_,_,_,_ => none
 | k+1,x0,x1,x5,x7,x8,x23 => if x23=true then (spinneyref01_utf.j2 k x0 x1 x5 3 x7 x8) else (if x5 ≥ 240 then (if x5≤244 then (spinneyref01_utf.j2 k x0 x1 x5 4 x7 x8) else (some 0)) else (some 0))
end
def spinneyref01_utf.f (k:Nat) (a0:ByteArray) (a1:Int):Option (Int):=if 0≤a1 then (if a1 < (a0.size:Int) then (if (bt a0 a1) < 128 then (some 1) else (if (bt a0 a1) ≥ 194 then (spinneyref01_utf.j0 k a0 a1 (bt a0 a1) 128 191 (decide ((bt a0 a1)≤223))) else (spinneyref01_utf.j0 k a0 a1 (bt a0 a1) 128 191 false))) else (none)) else (none)
set_option maxHeartbeats 8000000 in
set_option maxRecDepth 100000 in
theorem spinneyref01_utf.calls (k:Nat) (a0:ByteArray) (a1:Int) (r:Int) (w:World) (h:spinneyref01_utf.f k a0 a1=some r) :
  Calls Tryd.prog 80 #[.string a0,.int .i64 a1] w fun e w' => e=.returned (.int .i64 r)∧Drawn0 w w':=by
 have H:(if 0≤a1 then (if a1 < (a0.size:Int) then (if (bt a0 a1) < 128 then (some 1) else (if (bt a0 a1) ≥ 194 then (spinneyref01_utf.j0 k a0 a1 (bt a0 a1) 128 191 (decide ((bt a0 a1)≤223))) else (spinneyref01_utf.j0 k a0 a1 (bt a0 a1) 128 191 false))) else (none)) else (none))=some r:=h
 clear h
 by_cases c3:0≤a1
 ·rw [if_pos c3] at H
  have c3b0:decide (0≤a1)=true:=decide_eq_true c3
  clear c3
  by_cases c4:a1 < (a0.size:Int)
  ·rw [if_pos c4] at H
   have c4b0:decide (a1 < (a0.size:Int))=true:=decide_eq_true c4
   clear c4
   have HC6:=Aside0.mk H
   clear H
   have p5:0≤(a1:Int):=of_decide_eq_true (by first|(with_reducible assumption)|assumption)
   have q5:a1 < (a0.size:Int):=of_decide_eq_true (by first|(with_reducible assumption)|assumption)
   have hx5:=bt_at a0 a1
   replace p5:=eq_true p5
   replace q5:=eq_true q5
   go_enter Tryd.func80,Tryd.ntmps80
   go_upto_block 0 with (fail)
   go_cut [6] (fun v6 wc => ∃ (kq:Nat) (x6_5:Int),v6=.int .i64 x6_5∧Aside0 (spinneyref01_utf.j2 kq a0 a1 (bt a0 a1) x6_5 128 191=some r)∧Aside0 (kq≤k)∧Drawn0 w wc)
   case first =>
    have H:=HC6.out
    clear HC6
    by_cases c7:(bt a0 a1) < 128
    ·rw [if_pos c7] at H
     have c7b0:decide ((bt a0 a1) < 128)=true:=decide_eq_true c7
     clear c7
     (first|rw [c7b0]|(simp only [i64_w,i32_w];rw [c7b0])|skip)
     obtain rfl:=Option.some.inj H
     go_wp2
     go_ret
     exact ⟨by first|rfl|(simp;done)|(simp [*];done),by repeat (first|exact Drawn0.refl _|apply Drawn0.step)⟩
    ·rw [if_neg c7] at H
     have c7b0:decide ((bt a0 a1) < 128)=false:=decide_eq_false c7
     clear c7
     (first|rw [c7b0]|(simp only [i64_w,i32_w];rw [c7b0])|skip)
     have HC8:=Aside0.mk H
     clear H
     go_upto_region 8 with (fail)
     go_cut [16] (fun v16 wc => ∃ (kq:Nat) (x16_7:Bool),v16=.bool x16_7∧Aside0 (spinneyref01_utf.j0 kq a0 a1 (bt a0 a1) 128 191 x16_7=some r)∧Aside0 (kq≤k)∧Drawn0 w wc)
     case first =>
      have H:=HC8.out
      clear HC8
      by_cases c9:(bt a0 a1) ≥ 194
      ·rw [if_pos c9] at H
       have c9b0:decide (194≤(bt a0 a1))=true:=decide_eq_true c9
       clear c9
       (first|rw [c9b0]|(simp only [i64_w,i32_w];rw [c9b0])|skip)
       have H':=Aside0.mk H
       clear H
       go_wp2
       go_meet
       case rel => exact ⟨_,(decide ((bt a0 a1)≤223)),(by first|rfl|(simp;done)|(simp [*];done)),H',⟨by first|omega|exact Nat.le_refl _⟩,by repeat (first|exact Drawn0.refl _|apply Drawn0.step)⟩
      ·rw [if_neg c9] at H
       have c9b0:decide (194≤(bt a0 a1))=false:=decide_eq_false c9
       clear c9
       (first|rw [c9b0]|(simp only [i64_w,i32_w];rw [c9b0])|skip)
       have H':=Aside0.mk H
       clear H
       go_wp2
       go_meet
       case rel => exact ⟨_,(false),(by first|rfl|(simp;done)|(simp [*];done)),H',⟨by first|omega|exact Nat.le_refl _⟩,by repeat (first|exact Drawn0.refl _|apply Drawn0.step)⟩
     case rest =>
      clear HC8
      try clear p2
      try clear c3
      try clear c3b0
      try clear c4
      try clear c4b0
      try clear p5
      try clear q5
      try clear hx5
      try clear c7
      try clear c7b0
      try clear c8
      try clear c9
      try clear c9b0
      try clear p5
      try clear q5
      obtain ⟨kq,x16_7,rfl,HA,HJ7,⟨mc7,rfl⟩⟩:=hcut
      cases kq with
      | zero => exact absurd HA.out (by simp [spinneyref01_utf.j0])
      | succ kj7 =>
       have H:=HA.out
       clear HA
       simp only [spinneyref01_utf.j0] at H
       by_cases c10:x16_7=true
       ·subst c10
        have H1:(spinneyref01_utf.j2 kj7 a0 a1 (bt a0 a1) 2 128 191)=some r:=by rw [if_pos rfl] at H;exact H
        clear H
        have H:=H1
        clear H1
        have H':=Aside0.mk H
        clear H
        go_wp2
        go_meet
        case rel => exact ⟨_,(2),(by first|rfl|(simp;done)|(simp [*];done)),H',⟨by have:=HJ7.out;first|omega|exact Nat.le_refl _⟩,by repeat (first|exact Drawn0.refl _|apply Drawn0.step)⟩
       ·replace c10:=Bool.eq_false_iff.mpr c10
        subst c10
        have H1:(if (bt a0 a1) ≥ 224 then (spinneyref01_utf.j1 kj7 a0 a1 (bt a0 a1) 128 191 (decide ((bt a0 a1)≤239))) else (spinneyref01_utf.j1 kj7 a0 a1 (bt a0 a1) 128 191 false))=some r:=by rw [if_neg (show ¬ (false=true) by decide)] at H;exact H
        clear H
        have H:=H1
        clear H1
        have HC11:=Aside0.mk H
        clear H
        go_upto_region 10 with (fail)
        go_cut [23] (fun v23 wc => ∃ (kq:Nat) (x23_10:Bool),v23=.bool x23_10∧Aside0 (spinneyref01_utf.j1 kq a0 a1 (bt a0 a1) 128 191 x23_10=some r)∧Aside0 (kq≤kj7)∧Drawn0 w wc)
        case first =>
         have H:=HC11.out
         clear HC11
         by_cases c12:(bt a0 a1) ≥ 224
         ·rw [if_pos c12] at H
          have c12b0:decide (224≤(bt a0 a1))=true:=decide_eq_true c12
          clear c12
          (first|rw [c12b0]|(simp only [i64_w,i32_w];rw [c12b0])|skip)
          have H':=Aside0.mk H
          clear H
          go_wp2
          go_meet
          case rel => exact ⟨_,(decide ((bt a0 a1)≤239)),(by first|rfl|(simp;done)|(simp [*];done)),H',⟨by have:=HJ7.out;first|omega|exact Nat.le_refl _⟩,by repeat (first|exact Drawn0.refl _|apply Drawn0.step)⟩
         ·rw [if_neg c12] at H
          have c12b0:decide (224≤(bt a0 a1))=false:=decide_eq_false c12
          clear c12
          (first|rw [c12b0]|(simp only [i64_w,i32_w];rw [c12b0])|skip)
          have H':=Aside0.mk H
          clear H
          go_wp2
          go_meet
          case rel => exact ⟨_,(false),(by first|rfl|(simp;done)|(simp [*];done)),H',⟨by have:=HJ7.out;first|omega|exact Nat.le_refl _⟩,by repeat (first|exact Drawn0.refl _|apply Drawn0.step)⟩
        case rest =>
         clear HC11
         try clear c1
         try clear p2
         try clear c3
         try clear c3b0
         try clear c4
         try clear c4b0
         try clear p5
         try clear q5
         try clear hx5
         try clear c7
         try clear c7b0
         try clear c8
         try clear c9
         try clear c9b0
         try clear c10
         try clear c12
         try clear c12b0
         try clear p2
         try clear p5
         try clear q5
         obtain ⟨kq,x23_10,rfl,HA,HJ10,⟨mc10,rfl⟩⟩:=hcut
         cases kq with
         | zero => exact absurd HA.out (by simp [spinneyref01_utf.j1])
         | succ kj10 =>
          have H:=HA.out
          clear HA
          simp only [spinneyref01_utf.j1] at H
          by_cases c13:x23_10=true
          ·subst c13
           have H1:(spinneyref01_utf.j2 kj10 a0 a1 (bt a0 a1) 3 128 191)=some r:=by rw [if_pos rfl] at H;exact H
           clear H
           have H:=H1
           clear H1
           have H':=Aside0.mk H
           clear H
           go_wp2
           go_meet
           case rel => exact ⟨_,(3),(by first|rfl|(simp;done)|(simp [*];done)),H',⟨by have:=HJ7.out;have:=HJ10.out;first|omega|exact Nat.le_refl _⟩,by repeat (first|exact Drawn0.refl _|apply Drawn0.step)⟩
          ·replace c13:=Bool.eq_false_iff.mpr c13
           subst c13
           have H1:(if (bt a0 a1) ≥ 240 then (if (bt a0 a1)≤244 then (spinneyref01_utf.j2 kj10 a0 a1 (bt a0 a1) 4 128 191) else (some 0)) else (some 0))=some r:=by rw [if_neg (show ¬ (false=true) by decide)] at H;exact H
           clear H
           have H:=H1
           clear H1
           by_cases c14:(bt a0 a1) ≥ 240
           ·rw [if_pos c14] at H
            have c14b0:decide (240≤(bt a0 a1))=true:=decide_eq_true c14
            clear c14
            by_cases c15:(bt a0 a1)≤244
            ·rw [if_pos c15] at H
             have c15b0:decide ((bt a0 a1)≤244)=true:=decide_eq_true c15
             clear c15
             have H':=Aside0.mk H
             clear H
             go_wp2
             go_meet
             case rel => exact ⟨_,(4),(by first|rfl|(simp;done)|(simp [*];done)),H',⟨by have:=HJ7.out;have:=HJ10.out;first|omega|exact Nat.le_refl _⟩,by repeat (first|exact Drawn0.refl _|apply Drawn0.step)⟩
            ·rw [if_neg c15] at H
             have c15b0:decide ((bt a0 a1)≤244)=false:=decide_eq_false c15
             clear c15
             obtain rfl:=Option.some.inj H
             go_wp2
             go_ret
             exact ⟨by first|rfl|(simp;done)|(simp [*];done),by repeat (first|exact Drawn0.refl _|apply Drawn0.step)⟩
           ·rw [if_neg c14] at H
            have c14b0:decide (240≤(bt a0 a1))=false:=decide_eq_false c14
            clear c14
            obtain rfl:=Option.some.inj H
            go_wp2
            go_ret
            exact ⟨by first|rfl|(simp;done)|(simp [*];done),by repeat (first|exact Drawn0.refl _|apply Drawn0.step)⟩
   case rest =>
    clear HC6
    try clear c1
    try clear p2
    try clear c3
    try clear c3b0
    try clear c4
    try clear c4b0
    try clear p5
    try clear q5
    try clear hx5
    try clear c7
    try clear c7b0
    try clear c8
    try clear c9
    try clear c9b0
    try clear c10
    try clear c12
    try clear c12b0
    try clear c13
    try clear c14
    try clear c14b0
    try clear c15
    try clear c15b0
    try clear p2
    try clear p5
    try clear q5
    obtain ⟨kq,x6_5,rfl,HA,HJ5,⟨mc5,rfl⟩⟩:=hcut
    cases kq with
    | zero => exact absurd HA.out (by simp [spinneyref01_utf.j2])
    | succ kj5 =>
     have H:=HA.out
     clear HA
     simp only [spinneyref01_utf.j2] at H
     have HC16:=Aside0.mk H
     clear H
     go_upto_block 1 with (fail)
     go_cut [7,8] (fun v7 v8 wc => ∃ (kq:Nat) (x7_15:Int) (x8_15:Int),v7=.int .u8 x7_15∧v8=.int .u8 x8_15∧Aside0 (spinneyref01_utf.j3 kq a0 a1 x6_5 x7_15 x8_15=some r)∧Aside0 (kq≤kj5)∧Drawn0 w wc)
     case first =>
      have H:=HC16.out
      clear HC16
      by_cases c17:(bt a0 a1)=224
      ·rw [if_pos c17] at H
       have c17b0:((bt a0 a1) == 224)=true:=beq_iff_eq.mpr c17
       have c17b1:((bt a0 a1) != 224)=false:=bne_eq_false_iff_eq.mpr c17
       clear c17
       (first|rw [c17b0]|(simp only [i64_w,i32_w];rw [c17b0])|skip)
       have H':=Aside0.mk H
       clear H
       go_wp2
       go_meet
       case rel => exact ⟨_,(160),(191),(by first|rfl|(simp;done)|(simp [*];done)),(by first|rfl|(simp;done)|(simp [*];done)),H',⟨by have:=HJ5.out;first|omega|exact Nat.le_refl _⟩,by repeat (first|exact Drawn0.refl _|apply Drawn0.step)⟩
      ·rw [if_neg c17] at H
       have c17b0:((bt a0 a1) == 224)=false:=beq_eq_false_iff_ne.mpr c17
       have c17b1:((bt a0 a1) != 224)=true:=bne_iff_ne.mpr c17
       (first|rw [c17b0]|(simp only [i64_w,i32_w];rw [c17b0])|skip)
       by_cases c18:(bt a0 a1)=237
       ·rw [if_pos c18] at H
        have c18b0:((bt a0 a1) == 237)=true:=beq_iff_eq.mpr c18
        have c18b1:((bt a0 a1) != 237)=false:=bne_eq_false_iff_eq.mpr c18
        clear c18
        have H':=Aside0.mk H
        clear H
        go_wp2
        go_meet
        case rel => exact ⟨_,(128),(159),(by first|rfl|(simp;done)|(simp [*];done)),(by first|rfl|(simp;done)|(simp [*];done)),H',⟨by have:=HJ5.out;first|omega|exact Nat.le_refl _⟩,by repeat (first|exact Drawn0.refl _|apply Drawn0.step)⟩
       ·rw [if_neg c18] at H
        have c18b0:((bt a0 a1) == 237)=false:=beq_eq_false_iff_ne.mpr c18
        have c18b1:((bt a0 a1) != 237)=true:=bne_iff_ne.mpr c18
        by_cases c19:(bt a0 a1)=240
        ·rw [if_pos c19] at H
         have c19b0:((bt a0 a1) == 240)=true:=beq_iff_eq.mpr c19
         have c19b1:((bt a0 a1) != 240)=false:=bne_eq_false_iff_eq.mpr c19
         clear c19
         have H':=Aside0.mk H
         clear H
         go_wp2
         go_meet
         case rel => exact ⟨_,(144),(191),(by first|rfl|(simp;done)|(simp [*];done)),(by first|rfl|(simp;done)|(simp [*];done)),H',⟨by have:=HJ5.out;first|omega|exact Nat.le_refl _⟩,by repeat (first|exact Drawn0.refl _|apply Drawn0.step)⟩
        ·rw [if_neg c19] at H
         have c19b0:((bt a0 a1) == 240)=false:=beq_eq_false_iff_ne.mpr c19
         have c19b1:((bt a0 a1) != 240)=true:=bne_iff_ne.mpr c19
         by_cases c20:(bt a0 a1)=244
         ·rw [if_pos c20] at H
          have c20b0:((bt a0 a1) == 244)=true:=beq_iff_eq.mpr c20
          have c20b1:((bt a0 a1) != 244)=false:=bne_eq_false_iff_eq.mpr c20
          clear c20
          have H':=Aside0.mk H
          clear H
          go_wp2
          go_meet
          case rel => exact ⟨_,(128),(143),(by first|rfl|(simp;done)|(simp [*];done)),(by first|rfl|(simp;done)|(simp [*];done)),H',⟨by have:=HJ5.out;first|omega|exact Nat.le_refl _⟩,by repeat (first|exact Drawn0.refl _|apply Drawn0.step)⟩
         ·rw [if_neg c20] at H
          have c20b0:((bt a0 a1) == 244)=false:=beq_eq_false_iff_ne.mpr c20
          have c20b1:((bt a0 a1) != 244)=true:=bne_iff_ne.mpr c20
          have H':=Aside0.mk H
          clear H
          go_wp2
          go_meet
          case rel => exact ⟨_,(128),(191),(by first|rfl|(simp;done)|(simp [*];done)),(by first|rfl|(simp;done)|(simp [*];done)),H',⟨by have:=HJ5.out;first|omega|exact Nat.le_refl _⟩,by repeat (first|exact Drawn0.refl _|apply Drawn0.step)⟩
     case rest =>
      clear HC16
      try clear c1
      try clear c2
      try clear p2
      try clear c3
      try clear c3b0
      try clear c4
      try clear c4b0
      try clear c5
      try clear p5
      try clear q5
      try clear hx5
      try clear c7
      try clear c7b0
      try clear c8
      try clear c9
      try clear c9b0
      try clear c10
      try clear c12
      try clear c12b0
      try clear c13
      try clear c14
      try clear c14b0
      try clear c15
      try clear c15b0
      try clear c17
      try clear c17b0
      try clear c17b1
      try clear c18
      try clear c18b0
      try clear c18b1
      try clear c19
      try clear c19b0
      try clear c19b1
      try clear c20
      try clear c20b0
      try clear c20b1
      try clear p2
      try clear p5
      try clear q5
      obtain ⟨kq,x7_15,x8_15,rfl,rfl,HA,HJ15,⟨mc15,rfl⟩⟩:=hcut
      cases kq with
      | zero => exact absurd HA.out (by simp [spinneyref01_utf.j3])
      | succ kj15 =>
       have H:=HA.out
       clear HA
       simp only [spinneyref01_utf.j3] at H
       have HC21:=Aside0.mk H
       clear H
       go_upto_region 23 with (fail)
       go_cut [67] (fun v67 wc => ∃ (kq:Nat) (x67_20:Bool),v67=.bool x67_20∧Aside0 (spinneyref01_utf.j4 kq a0 a1 x6_5 x67_20=some r)∧Aside0 (kq≤kj15)∧Drawn0 w wc)
       case first =>
        have H:=HC21.out
        clear HC21
        by_cases c22:(wrap64 (a1+x6_5)) > (a0.size:Int)
        ·rw [if_pos c22] at H
         have c22b0:decide ((a0.size:Int) < (wrap64 (a1+x6_5)))=true:=decide_eq_true c22
         clear c22
         (first|rw [c22b0]|(simp only [i64_w,i32_w];rw [c22b0])|skip)
         have H':=Aside0.mk H
         clear H
         go_wp2
         go_meet
         case rel => exact ⟨_,(true),(by first|rfl|(simp;done)|(simp [*];done)),H',⟨by have:=HJ5.out;have:=HJ15.out;first|omega|exact Nat.le_refl _⟩,by repeat (first|exact Drawn0.refl _|apply Drawn0.step)⟩
        ·rw [if_neg c22] at H
         have c22b0:decide ((a0.size:Int) < (wrap64 (a1+x6_5)))=false:=decide_eq_false c22
         clear c22
         (first|rw [c22b0]|(simp only [i64_w,i32_w];rw [c22b0])|skip)
         obtain ⟨ji23,hji23⟩:∃ j_:Int,(wrap64 (a1+1))=j_:=⟨_,rfl⟩
         replace H:(if 0≤(ji23) then (if (ji23) < (a0.size:Int) then (if (bt a0 (ji23)) < x7_15 then (spinneyref01_utf.j4 kj15 a0 a1 x6_5 true) else (spinneyref01_utf.j4 kj15 a0 a1 x6_5 (decide ((bt a0 (ji23)) > x8_15)))) else (none)) else (none))=some r:=by first|(rw [hji23] at H;exact H)|(simp only [hji23] at H ⊢;exact H)
         have hji23w:(IntKind.i64.wrap (a1+1))=ji23:=(i64_w _).trans hji23
         by_cases c24:0≤(ji23)
         ·rw [if_pos c24] at H
          have c24b0:decide (0≤(ji23))=true:=decide_eq_true c24
          clear c24
          by_cases c25:(ji23) < (a0.size:Int)
          ·rw [if_pos c25] at H
           have c25b0:decide ((ji23) < (a0.size:Int))=true:=decide_eq_true c25
           clear c25
           by_cases c27:(bt a0 (ji23)) < x7_15
           ·rw [if_pos c27] at H
            have c27b0:decide ((bt a0 (ji23)) < x7_15)=true:=decide_eq_true c27
            clear c27
            have H':=Aside0.mk H
            clear H
            have p26:0≤((ji23):Int):=of_decide_eq_true (by first|(with_reducible assumption)|assumption)
            have q26:(ji23) < (a0.size:Int):=of_decide_eq_true (by first|(with_reducible assumption)|assumption)
            have hx26:=bt_at a0 (ji23)
            replace p26:=eq_true p26
            replace q26:=eq_true q26
            go_wp2
            go_meet
            case rel => exact ⟨_,(true),(by first|rfl|(simp;done)|(simp [*];done)),H',⟨by have:=HJ5.out;have:=HJ15.out;first|omega|exact Nat.le_refl _⟩,by repeat (first|exact Drawn0.refl _|apply Drawn0.step)⟩
           ·rw [if_neg c27] at H
            have c27b0:decide ((bt a0 (ji23)) < x7_15)=false:=decide_eq_false c27
            clear c27
            have H':=Aside0.mk H
            clear H
            have p26:0≤((ji23):Int):=of_decide_eq_true (by first|(with_reducible assumption)|assumption)
            have q26:(ji23) < (a0.size:Int):=of_decide_eq_true (by first|(with_reducible assumption)|assumption)
            have hx26:=bt_at a0 (ji23)
            replace p26:=eq_true p26
            replace q26:=eq_true q26
            have p28:0≤((ji23):Int):=of_decide_eq_true (by first|(with_reducible assumption)|assumption)
            have q28:(ji23) < (a0.size:Int):=of_decide_eq_true (by first|(with_reducible assumption)|assumption)
            have hx28:=bt_at a0 (ji23)
            replace p28:=eq_true p28
            replace q28:=eq_true q28
            go_wp2
            go_meet
            case rel => exact ⟨_,(decide ((bt a0 (ji23)) > x8_15)),(by first|rfl|(simp;done)|(simp only [← hji23] <;> (first|rfl|simp))|(simp [*];done)),H',⟨by have:=HJ5.out;have:=HJ15.out;first|omega|exact Nat.le_refl _⟩,by repeat (first|exact Drawn0.refl _|apply Drawn0.step)⟩
          ·rw [if_neg c25] at H
           exact absurd H (by simp)
         ·rw [if_neg c24] at H
          exact absurd H (by simp)
       case rest =>
        clear HC21
        try clear c1
        try clear c2
        try clear p2
        try clear q2
        try clear hx2
        try clear c3
        try clear c3b0
        try clear c4
        try clear c4b0
        try clear c5
        try clear p5
        try clear q5
        try clear hx5
        try clear p6
        try clear c7
        try clear c7b0
        try clear c8
        try clear c9
        try clear c9b0
        try clear c10
        try clear c12
        try clear c12b0
        try clear c13
        try clear c14
        try clear c14b0
        try clear c15
        try clear c15b0
        try clear c17
        try clear c17b0
        try clear c17b1
        try clear c18
        try clear c18b0
        try clear c18b1
        try clear c19
        try clear c19b0
        try clear c19b1
        try clear c20
        try clear c20b0
        try clear c20b1
        try clear c22
        try clear c22b0
        try clear c24
        try clear c24b0
        try clear c25
        try clear c25b0
        try clear p26
        try clear q26
        try clear hx26
        try clear c27
        try clear c27b0
        try clear p28
        try clear q28
        try clear hx28
        try clear p2
        try clear p26
        try clear p28
        try clear p5
        try clear q26
        try clear q28
        try clear q5
        obtain ⟨kq,x67_20,rfl,HA,HJ20,⟨mc20,rfl⟩⟩:=hcut
        cases kq with
        | zero => exact absurd HA.out (by simp [spinneyref01_utf.j4])
        | succ kj20 =>
         have H:=HA.out
         clear HA
         simp only [spinneyref01_utf.j4] at H
         by_cases c29:x67_20=true
         ·subst c29
          have H1:(some 0)=some r:=by rw [if_pos rfl] at H;exact H
          clear H
          have H:=H1
          clear H1
          obtain rfl:=Option.some.inj H
          go_wp2
          go_ret
          exact ⟨by first|rfl|(simp;done)|(simp [*];done),by repeat (first|exact Drawn0.refl _|apply Drawn0.step)⟩
         ·replace c29:=Bool.eq_false_iff.mpr c29
          subst c29
          have H1:(spinneyref01_utf.l0 kj20 a0 a1 x6_5 2)=some r:=by rw [if_neg (show ¬ (false=true) by decide)] at H;exact H
          clear H
          have H:=H1
          clear H1
          have H':=Aside0.mk H
          clear H
          go_wp2
          go_loopg [9] kj20 (fun kq v9 w' => ∃ (x9_4:Int),v9=.int .i64 x9_4∧Aside0 (spinneyref01_utf.l0 kq a0 a1 x6_5 x9_4=some r)∧Aside0 (kq≤kj20)∧Drawn0 w w')
          case atStart => exact ⟨(2),(by first|rfl|(simp;done)|(simp [*];done)),H',⟨Nat.le_refl _⟩,by repeat (first|exact Drawn0.refl _|apply Drawn0.step)⟩
          case round =>
           clear H'
           try clear c1
           try clear c2
           try clear p2
           try clear q2
           try clear hx2
           try clear c3
           try clear c3b0
           try clear c4
           try clear c4b0
           try clear c5
           try clear p5
           try clear q5
           try clear hx5
           try clear p6
           try clear c7
           try clear c7b0
           try clear c8
           try clear c9
           try clear c9b0
           try clear c10
           try clear c12
           try clear c12b0
           try clear c13
           try clear c14
           try clear c14b0
           try clear c15
           try clear c15b0
           try clear c17
           try clear c17b0
           try clear c17b1
           try clear c18
           try clear c18b0
           try clear c18b1
           try clear c19
           try clear c19b0
           try clear c19b1
           try clear c20
           try clear c20b0
           try clear c20b1
           try clear c22
           try clear c22b0
           try clear c24
           try clear c24b0
           try clear c25
           try clear c25b0
           try clear p26
           try clear q26
           try clear hx26
           try clear c27
           try clear c27b0
           try clear p28
           try clear q28
           try clear hx28
           try clear c29
           try clear p2
           try clear p26
           try clear p28
           try clear p5
           try clear p6
           try clear q2
           try clear q26
           try clear q28
           try clear q5
           obtain ⟨x9_4,rfl,HA,HK4,⟨m4,rfl⟩⟩:=hrel
           cases gk with
           | zero => exact absurd HA.out (by simp [spinneyref01_utf.l0])
           | succ k4 =>
            have H:=HA.out
            clear HA
            simp only [spinneyref01_utf.l0] at H
            by_cases c30:x9_4 < x6_5
            ·rw [if_pos c30] at H
             have c30b0:decide (x9_4 < x6_5)=true:=decide_eq_true c30
             clear c30
             obtain ⟨ji31,hji31⟩:∃ j_:Int,(wrap64 (a1+x9_4))=j_:=⟨_,rfl⟩
             replace H:(if 0≤(ji31) then (if (ji31) < (a0.size:Int) then (if (bt a0 (ji31)) < 128 then (some 0) else (if (bt a0 (ji31)) > 191 then (some 0) else (spinneyref01_utf.l0 k4 a0 a1 x6_5 (wrap64 (x9_4+1))))) else (none)) else (none))=some r:=by first|(rw [hji31] at H;exact H)|(simp only [hji31] at H ⊢;exact H)
             have hji31w:(IntKind.i64.wrap (a1+x9_4))=ji31:=(i64_w _).trans hji31
             by_cases c32:0≤(ji31)
             ·rw [if_pos c32] at H
              have c32b0:decide (0≤(ji31))=true:=decide_eq_true c32
              clear c32
              by_cases c33:(ji31) < (a0.size:Int)
              ·rw [if_pos c33] at H
               have c33b0:decide ((ji31) < (a0.size:Int))=true:=decide_eq_true c33
               clear c33
               by_cases c35:(bt a0 (ji31)) < 128
               ·rw [if_pos c35] at H
                have c35b0:decide ((bt a0 (ji31)) < 128)=true:=decide_eq_true c35
                clear c35
                obtain rfl:=Option.some.inj H
                have p34:0≤((ji31):Int):=of_decide_eq_true (by first|(with_reducible assumption)|assumption)
                have q34:(ji31) < (a0.size:Int):=of_decide_eq_true (by first|(with_reducible assumption)|assumption)
                have hx34:=bt_at a0 (ji31)
                replace p34:=eq_true p34
                replace q34:=eq_true q34
                go_wp2
                go_ret
                exact ⟨by first|rfl|(simp;done)|(simp only [← hji31] <;> (first|rfl|simp))|(simp [*];done),by repeat (first|exact Drawn0.refl _|apply Drawn0.step)⟩
               ·rw [if_neg c35] at H
                have c35b0:decide ((bt a0 (ji31)) < 128)=false:=decide_eq_false c35
                clear c35
                by_cases c37:(bt a0 (ji31)) > 191
                ·rw [if_pos c37] at H
                 have c37b0:decide (191 < (bt a0 (ji31)))=true:=decide_eq_true c37
                 clear c37
                 obtain rfl:=Option.some.inj H
                 have p34:0≤((ji31):Int):=of_decide_eq_true (by first|(with_reducible assumption)|assumption)
                 have q34:(ji31) < (a0.size:Int):=of_decide_eq_true (by first|(with_reducible assumption)|assumption)
                 have hx34:=bt_at a0 (ji31)
                 replace p34:=eq_true p34
                 replace q34:=eq_true q34
                 have p36:0≤((ji31):Int):=of_decide_eq_true (by first|(with_reducible assumption)|assumption)
                 have q36:(ji31) < (a0.size:Int):=of_decide_eq_true (by first|(with_reducible assumption)|assumption)
                 have hx36:=bt_at a0 (ji31)
                 replace p36:=eq_true p36
                 replace q36:=eq_true q36
                 go_wp2
                 go_ret
                 exact ⟨by first|rfl|(simp;done)|(simp only [← hji31] <;> (first|rfl|simp))|(simp [*];done),by repeat (first|exact Drawn0.refl _|apply Drawn0.step)⟩
                ·rw [if_neg c37] at H
                 have c37b0:decide (191 < (bt a0 (ji31)))=false:=decide_eq_false c37
                 clear c37
                 have H':=Aside0.mk H
                 clear H
                 have p34:0≤((ji31):Int):=of_decide_eq_true (by first|(with_reducible assumption)|assumption)
                 have q34:(ji31) < (a0.size:Int):=of_decide_eq_true (by first|(with_reducible assumption)|assumption)
                 have hx34:=bt_at a0 (ji31)
                 replace p34:=eq_true p34
                 replace q34:=eq_true q34
                 have p36:0≤((ji31):Int):=of_decide_eq_true (by first|(with_reducible assumption)|assumption)
                 have q36:(ji31) < (a0.size:Int):=of_decide_eq_true (by first|(with_reducible assumption)|assumption)
                 have hx36:=bt_at a0 (ji31)
                 replace p36:=eq_true p36
                 replace q36:=eq_true q36
                 go_wp2
                 go_roundg k4
                 case measure => have:=HJ5.out;have:=HJ15.out;have:=HJ20.out;have:=HK4.out;omega
                 case rel => exact ⟨(wrap64 (x9_4+1)),(by first|rfl|(simp;done)|(simp [*];done)),H',⟨by have:=HJ5.out;have:=HJ15.out;have:=HJ20.out;have:=HK4.out;omega⟩,by repeat (first|exact Drawn0.refl _|apply Drawn0.step)⟩
              ·rw [if_neg c33] at H
               exact absurd H (by simp)
             ·rw [if_neg c32] at H
              exact absurd H (by simp)
            ·rw [if_neg c30] at H
             have c30b0:decide (x9_4 < x6_5)=false:=decide_eq_false c30
             clear c30
             obtain rfl:=Option.some.inj H
             go_wp2
             go_ret
             exact ⟨by first|rfl|(simp;done)|(simp [*];done),by repeat (first|exact Drawn0.refl _|apply Drawn0.step)⟩
  ·rw [if_neg c4] at H
   exact absurd H (by simp)
 ·rw [if_neg c3] at H
  exact absurd H (by simp)

end Go.Proofs.YtgmmoagclkmeaaaDoor.XH
end
section
-- laid by xprint.py (the session's own program) out of the translation; Lean checks it
namespace Go.Proofs.YtgmmoagclkmeaaaDoor.XH
open Go.RowKit Go.Proofs.YtgmmoagclkmeaaaDoorW.PrintWords Go.Proofs.YtgmmoagclkmeaaaDoorW.PrintLast Go.Proofs.YtgmmoagclkmeaaaDoorW.PrintMore
attribute [local go_sem] max2_int min2_int max_two min_two max_three min_three max_four min_four   -- for this text's walks alone
set_option linter.unusedVariables false
set_option linter.unusedSimpArgs false

def spinneyref01_Letters.l0:Nat→ByteArray→Int→Int→Option (Int)
 | 0,_,_,_ => none
 | k+1,x0,x3,x4 => if x4 < (x0.size:Int) then ((spinneyref01_utf.f k x0 x4).bind fun t144 => (if t144=0 then (some (-1)) else (spinneyref01_Letters.l0 k x0 (wrap64 (x3+1)) (wrap64 (x4+t144))))) else (some x3)
def spinneyref01_Letters.f (k:Nat) (a0:ByteArray):Option (Int):=spinneyref01_Letters.l0 k a0 0 0
set_option maxHeartbeats 8000000 in
set_option maxRecDepth 100000 in
theorem spinneyref01_Letters.calls (k:Nat) (a0:ByteArray) (r:Int) (w:World) (h:spinneyref01_Letters.f k a0=some r) :
  Calls Tryd.prog 73 #[.string a0] w fun e w' => e=.returned (.int .i64 r)∧Drawn0 w w':=by
 have H:(spinneyref01_Letters.l0 k a0 0 0)=some r:=h
 clear h
 have H':=Aside0.mk H
 clear H
 go_enter Tryd.func73,Tryd.ntmps73
 go_wp2
 go_loopg [3,4] k (fun kq v3 v4 w' => ∃ (x3_1:Int) (x4_1:Int),v3=.int .i64 x3_1∧v4=.int .i64 x4_1∧Aside0 (spinneyref01_Letters.l0 kq a0 x3_1 x4_1=some r)∧Aside0 (kq≤k)∧Drawn0 w w')
 case atStart => exact ⟨(0),(0),(by first|rfl|(simp;done)|(simp [*];done)),(by first|rfl|(simp;done)|(simp [*];done)),H',⟨Nat.le_refl _⟩,by repeat (first|exact Drawn0.refl _|apply Drawn0.step)⟩
 case round =>
  clear H'
  obtain ⟨x3_1,x4_1,rfl,rfl,HA,HK1,⟨m1,rfl⟩⟩:=hrel
  cases gk with
  | zero => exact absurd HA.out (by simp [spinneyref01_Letters.l0])
  | succ k1 =>
   have H:=HA.out
   clear HA
   simp only [spinneyref01_Letters.l0] at H
   by_cases c2:x4_1 < (a0.size:Int)
   ·rw [if_pos c2] at H
    have c2b0:decide (x4_1 < (a0.size:Int))=true:=decide_eq_true c2
    clear c2
    replace H:=Option.bind_eq_some_iff.mp H
    obtain ⟨t144,A30,H⟩:=H
    replace H:(if t144=0 then (some (-1)) else (spinneyref01_Letters.l0 k1 a0 (wrap64 (x3_1+1)) (wrap64 (x4_1+t144))))=some r:=H
    have A3:=Aside0.mk A30
    clear A30
    by_cases c4:t144=0
    ·rw [if_pos c4] at H
     have c4b0:(t144 == 0)=true:=beq_iff_eq.mpr c4
     have c4b1:(t144 != 0)=false:=bne_eq_false_iff_eq.mpr c4
     clear c4
     obtain rfl:=Option.some.inj H
     go_wp2_with (first|((with_reducible refine gate_callee (f:=80) rfl ?_);refine goesL_ (some 12) rfl rfl Tryd.func80 (by kernel_rfl) rfl #[.string a0,.int .i64 x4_1] rfl (by (try simp only [List.map_toArray,List.map_cons,List.map_nil]);first|done|rfl|(simp only [List.length_drop,List.length_take];rfl)|(simp only [gt_iff_lt,Int.ofNat_lt];rfl)) ?_;(with_reducible refine (spinneyref01_utf.calls k1 a0 x4_1 t144 _ A3.out).mono ?_);rintro e w' ⟨rfl,⟨nd,rfl⟩⟩;refine ⟨_,rfl,?_⟩))
     go_ret
     exact ⟨by first|rfl|(simp;done)|(simp [*];done),by repeat (first|exact Drawn0.refl _|apply Drawn0.step)⟩
    ·rw [if_neg c4] at H
     have c4b0:(t144 == 0)=false:=beq_eq_false_iff_ne.mpr c4
     have c4b1:(t144 != 0)=true:=bne_iff_ne.mpr c4
     have H':=Aside0.mk H
     clear H
     go_wp2_with (first|((with_reducible refine gate_callee (f:=80) rfl ?_);refine goesL_ (some 12) rfl rfl Tryd.func80 (by kernel_rfl) rfl #[.string a0,.int .i64 x4_1] rfl (by (try simp only [List.map_toArray,List.map_cons,List.map_nil]);first|done|rfl|(simp only [List.length_drop,List.length_take];rfl)|(simp only [gt_iff_lt,Int.ofNat_lt];rfl)) ?_;(with_reducible refine (spinneyref01_utf.calls k1 a0 x4_1 t144 _ A3.out).mono ?_);rintro e w' ⟨rfl,⟨nd,rfl⟩⟩;refine ⟨_,rfl,?_⟩))
     go_roundg k1
     case measure => have:=HK1.out;omega
     case rel => exact ⟨(wrap64 (x3_1+1)),(wrap64 (x4_1+t144)),(by first|rfl|(simp;done)|(simp [*];done)),(by first|rfl|(simp;done)|(simp [*];done)),H',⟨by have:=HK1.out;omega⟩,by repeat (first|exact Drawn0.refl _|apply Drawn0.step)⟩
   ·rw [if_neg c2] at H
    have c2b0:decide (x4_1 < (a0.size:Int))=false:=decide_eq_false c2
    clear c2
    obtain rfl:=Option.some.inj H
    go_wp2
    go_ret
    exact ⟨by first|rfl|(simp;done)|(simp [*];done),by repeat (first|exact Drawn0.refl _|apply Drawn0.step)⟩

def spinneyref01_coll.f (a0:Int):Option (Bool):=if a0=4 then (some true) else (if a0=5 then (some true) else (some (a0 == 6)))
set_option maxHeartbeats 8000000 in
set_option maxRecDepth 100000 in
theorem spinneyref01_coll.calls (a0:Int) (r:Bool) (w:World) (h:spinneyref01_coll.f a0=some r) :
  Calls Tryd.prog 75 #[.int .i64 a0] w fun e w' => e=.returned (.bool r)∧Drawn0 w w':=by
 have H:(if a0=4 then (some true) else (if a0=5 then (some true) else (some (a0 == 6))))=some r:=h
 clear h
 by_cases c2:a0=4
 ·rw [if_pos c2] at H
  have c2b0:(a0 == 4)=true:=beq_iff_eq.mpr c2
  have c2b1:(a0 != 4)=false:=bne_eq_false_iff_eq.mpr c2
  clear c2
  obtain rfl:=Option.some.inj H
  go_enter Tryd.func75,Tryd.ntmps75
  go_wp2
  go_ret
  exact ⟨by first|rfl|(simp;done)|(simp [*];done),by repeat (first|exact Drawn0.refl _|apply Drawn0.step)⟩
 ·rw [if_neg c2] at H
  have c2b0:(a0 == 4)=false:=beq_eq_false_iff_ne.mpr c2
  have c2b1:(a0 != 4)=true:=bne_iff_ne.mpr c2
  by_cases c3:a0=5
  ·rw [if_pos c3] at H
   have c3b0:(a0 == 5)=true:=beq_iff_eq.mpr c3
   have c3b1:(a0 != 5)=false:=bne_eq_false_iff_eq.mpr c3
   clear c3
   obtain rfl:=Option.some.inj H
   go_enter Tryd.func75,Tryd.ntmps75
   go_wp2
   go_ret
   exact ⟨by first|rfl|(simp;done)|(simp [*];done),by repeat (first|exact Drawn0.refl _|apply Drawn0.step)⟩
  ·rw [if_neg c3] at H
   have c3b0:(a0 == 5)=false:=beq_eq_false_iff_ne.mpr c3
   have c3b1:(a0 != 5)=true:=bne_iff_ne.mpr c3
   obtain rfl:=Option.some.inj H
   go_enter Tryd.func75,Tryd.ntmps75
   go_wp2
   go_ret
   exact ⟨by first|rfl|(simp;done)|(simp [*];done),by repeat (first|exact Drawn0.refl _|apply Drawn0.step)⟩

end Go.Proofs.YtgmmoagclkmeaaaDoor.XH
end
